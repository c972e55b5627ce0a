/- PolyForms: the evaluator's equations, Valid on both sides, pairs refused; the tied card by the given tie (the last of 6 texts). No condition beyond the statement's own. -/
import Derived.SizedLaws
import Derived.ChangeSlices
import Derived.Test.YtfbgaddecbiimaaGreatDoorRows
import Derived.Test.YtfbgaddecbiimaaGreatDoorCards
import Derived.Test.YtfbgaddecbiimaaGreatDoorTie
import Derived.WalkKit
import Derived.ProofKit
import Derived.OpenShut
import Derived.ShutString
import Derived.ChangeOld
import Derived.ChangeSame
import Derived.ChangeVars
import Derived.JoinedOf
import Derived.LaidLaws
import Derived.SevenTiedAt
import Derived.Below
import Derived.KernelRfl
import Derived.Test.YtfbgaddecbiimaaGreatDoorPForms5
set_option linter.unusedSimpArgs false
set_option linter.unusedSectionVars false
section
namespace Go.Proofs.YtfbgaddecbiimaaGreatDoor.P
open Go.RowKit Go.Proofs.YtfbgaddecbiimaaGreatDoorW.PrintWords Go.Proofs.YtfbgaddecbiimaaGreatDoorW.PrintLast Go.Proofs.YtfbgaddecbiimaaGreatDoorW.PrintMore
set_option linter.unusedVariables false
theorem cpy_zero {t:List Int} {n:Nat} (h:t.length≤n) (dt:Dg WW t):(cpy (List.replicate n 0) t).length=n∧Dg WW (cpy (List.replicate n 0) t)∧vl WW (cpy (List.replicate n 0) t)=vl WW t:=by
 have e:cpy (List.replicate n 0) t=t++List.replicate (n-t.length) 0:=by
  unfold cpy
  rw [List.length_replicate,Nat.min_eq_left h,List.take_length,List.drop_replicate]
 rw [e]
 refine ⟨by simp;omega,dt.append (Dg.rep bf _),?_⟩
 rw [gm,yB,Int.mul_zero,Int.add_zero]
theorem two_le31 {s:Nat} (h:s≤31):(2:Int) ^ s≤2147483648:=by
 have h2:(2:Int) ^ s≤2 ^ 31:=by
  have:2 ^ s≤2 ^ 31:=Nat.pow_le_pow_right (by decide) h
  exact_mod_cast this
 exact Int.le_trans h2 (by decide)
theorem normed {b:List Int} {m:Int} {L:Nat} (hb:Can WW b m) (hp:0<b.length) (h1:rd b ((b.length:Int)-1)<2 ^ L) (h2:2 ^ (L-1)≤rd b ((b.length:Int)-1)) (hL:1≤L) (hL2:L≤32) :
 m*2 ^ (32-L)<WW ^ b.length∧2147483648*WW ^ (b.length-1)≤m*2 ^ (32-L):=by
 have lv:=ob (a:=b) hp
 rw [hb.2.2] at lv
 have hd:=hb.1.take (b.length-1)
 have l0:=bV bf hd
 have l1:=gZ bf hd
 rw [List.length_take,Nat.min_eq_left (by omega)] at l1
 have hP:(0:Int)<WW ^ (b.length-1):=ga bf _
 have hs:=two_pos (32-L)
 have e1:WW ^ b.length=(2 ^ L*WW ^ (b.length-1))*2 ^ (32-L):=by
  have:b.length=(b.length-1)+1:=by omega
  rw [this,Int.pow_succ,Nat.add_sub_cancel,Int.mul_comm (2 ^ L),Int.mul_assoc,← Int.pow_add,show L+(32-L)=32 by omega];rfl
 have e2:2147483648*WW ^ (b.length-1)=(2 ^ (L-1)*WW ^ (b.length-1))*2 ^ (32-L):=by
  rw [Int.mul_comm (2 ^ (L-1)),Int.mul_assoc,← Int.pow_add,show L-1+(32-L)=31 by omega,Int.mul_comm];rfl
 generalize rd b ((b.length:Int)-1)=x at *
 have m1:(x+1)*WW ^ (b.length-1)≤2 ^ L*WW ^ (b.length-1):=Int.mul_le_mul_of_nonneg_right (by omega) (by omega)
 have m2:2 ^ (L-1)*WW ^ (b.length-1)≤x*WW ^ (b.length-1):=Int.mul_le_mul_of_nonneg_right h2 (by omega)
 rw [Int.add_mul] at m1
 rw [e1,e2]
 exact ⟨Int.mul_lt_mul_of_pos_right (by omega) hs,Int.mul_le_mul_of_nonneg_right (by omega) (by omega)⟩
theorem kZ {a b:List Int} {n m:Int} (hn:a.length<17179869184) (ha:Can WW a n) (hb:Can WW b m) (hm:0<m) :
 ∃ q r,Ev (fun k=>aB.f k a b) (q,r)∧Can WW q (n / m)∧Can WW r (n % m):=by
 have n0:=ha.gD bf
 have lb:0<b.length:=by
  rcases Nat.eq_zero_or_pos b.length with c | c
  ·have:=(hb.ig bf).1 c
   omega
  ·exact c
 have hc:=pE (by omega) ha hb
 by_cases c1:n<m
 ·have e:iz n m = -1:=by unfold iz;rw [if_pos c1]
  rw [e] at hc
  refine ⟨[],a,?_,?_,?_⟩
  ·unfold aB.f
   refine Ev.bind hc (evp (by omega) (evp (by simp;omega) ?_))
   exact evs _
  ·rw [Int.ediv_eq_zero_of_lt n0 c1];exact Can.zero _
  ·rw [Int.emod_eq_of_lt n0 c1];exact ha
 ·have hcm:¬ iz n m<0:=by unfold iz;rw [if_neg c1];split<;>omega
  have hba:b.length≤a.length:=ix ha hb (by omega)
  have bx:=dH hb.1 ((b.length:Int)-1) (by omega) (by omega)
  have bz:=hb.2.1.rd lb
  rw [cL] at bx
  by_cases c2:b.length=1
  ·have e1:m=rd b 0:=by
    have:=ob (a:=b) lb
    rw [hb.2.2,c2] at this
    simpa [vl] using this
   rw [c2] at bx
   have bx':0≤m∧m<4294967296:=by rw [e1];exact bx
   obtain ⟨q,q1,q2,q3⟩:=o7 (by omega) ha (K:=m) ⟨by omega,bx'.2⟩
   have r0:=Int.emod_nonneg n (show m≠0 by omega)
   have r1:=Int.emod_lt_of_pos n hm
   obtain ⟨r,r2,r3⟩:=fz (a:=n % m) r0 (by omega)
   refine ⟨q,r,?_,q2,r3⟩
   unfold aB.f
   refine Ev.bind hc (evn hcm (evp (by omega) (evp (by omega) ?_)))
   rw [← e1]
   refine Ev.bind q1 ?_
   rw [u64 (x:=n % m) (by omega) (by omega)]
   exact Ev.bind r2 (evs _)
  ·obtain ⟨L,z1,z2,z3,z4⟩:=zJ bx.1 bx.2
   obtain ⟨z5,z6⟩:=z4 bz
   obtain ⟨M1,M2⟩:=normed hb lb z3 z5 z6 z2
   have hs:=two_pos (32-L)
   have hs31:=two_le31 (s:=32-L) (by omega)
   obtain ⟨v,v1,v2,v3⟩:=pD (32-L) (by omega) hb
   obtain ⟨t,t1,t2,t3⟩:=pD (32-L) (by omega) ha
   have hvl:v.length=b.length:=by
    have h1:=v2.iu cZ M1
    have h2:WW ^ (b.length-1)≤m*2 ^ (32-L):=by
     have:(0:Int)<WW ^ (b.length-1):=ga bf _
     omega
    have h3:=v2.len_ge cZ h2
    omega
   have htop:2147483648≤rd v ((b.length-1:Nat):Int):=by
    have lv:=ob (a:=v) (by omega)
    rw [v2.2.2,hvl,show (b.length:Int)-1=((b.length-1:Nat):Int) by omega] at lv
    have hd:=v2.1.take (b.length-1)
    have l1:=gZ bf hd
    rw [List.length_take,Nat.min_eq_left (by omega)] at l1
    have hP:(0:Int)<WW ^ (b.length-1):=ga bf _
    have h3:2147483648*WW ^ (b.length-1)<(rd v ((b.length-1:Nat):Int)+1)*WW ^ (b.length-1):=by
     rw [Int.add_mul];omega
    have:=lO h3 hP
    omega
   obtain ⟨u1,u2,u3⟩:=cpy_zero (t:=t) (n:=a.length+1) (by omega) t2.1
   generalize hu:cpy (List.replicate (a.length+1) 0) t=u at *
   rw [t2.2.2] at u3
   have htl:=dH v2.1 ((b.length-1:Nat):Int) (by omega) (by omega)
   have hnl:=dH v2.1 ((b.length-2:Nat):Int) (by omega) (by omega)
   rw [cL] at htl hnl
   have hlow:vl WW (u.drop (a.length+1-b.length))<m*2 ^ (32-L):=by
    rcases Int.lt_or_le (vl WW (u.drop (a.length+1-b.length))) (m*2 ^ (32-L)) with c | c
    ·exact c
    ·exfalso
     have hd:=fq WW u (a.length+1-b.length) (by omega)
     rw [u3] at hd
     have l0:=bV bf (u2.take (a.length+1-b.length))
     have hPi:(0:Int)<WW ^ (a.length+1-b.length):=ga bf _
     have a1:WW ^ (a.length+1-b.length)*(2147483648*WW ^ (b.length-1))≤WW ^ (a.length+1-b.length)*vl WW (u.drop (a.length+1-b.length)):=Int.mul_le_mul_of_nonneg_left (by omega) (by omega)
     have a2:WW ^ (a.length+1-b.length)*(2147483648*WW ^ (b.length-1))=2147483648*WW ^ a.length:=by
      rw [Int.mul_left_comm,← Int.pow_add,show a.length+1-b.length+(b.length-1)=a.length by omega]
     have a3:n*2 ^ (32-L)<WW ^ a.length*2 ^ (32-L):=Int.mul_lt_mul_of_pos_right (ha.lt bf) hs
     have hPa:(0:Int)<WW ^ a.length:=ga bf _
     have a4:WW ^ a.length*2 ^ (32-L)≤WW ^ a.length*2147483648:=Int.mul_le_mul_of_nonneg_left hs31 (by omega)
     omega
   obtain ⟨q,r,r1,r2,r3⟩:=dm_l0 (s:=32-L) (nn:=b.length) (v:=v) (N:=n*2 ^ (32-L)) (by omega) (by omega) hvl v2.1 v2.2.2 rfl rfl htop (a.length+1-b.length) (a.length+1-b.length) (List.replicate (a.length+1-b.length) 0) u rfl (by omega) (by omega) (by rw [List.length_replicate,u1]) u2
    (by rw [List.drop_eq_nil_of_le (by simp)];exact Dg.nil _) hlow (by rw [List.drop_eq_nil_of_le (by simp),vl,Int.mul_zero,Int.mul_zero,Int.add_zero];exact u3)
   rw [Int.mul_ediv_mul_of_pos_left _ _ hs] at r2
   rw [Int.mul_comm n,Int.mul_comm m,Int.mul_emod_mul_of_pos _ _ hs,Int.mul_ediv_cancel_left _ (by omega)] at r3
   refine ⟨q,r,?_,r2,r3⟩
   unfold aB.f
   refine Ev.bind hc (evn hcm (evn (by omega) ?_))
   rw [w64 (x:=(b.length:Int)-1) (by omega) (by omega),w64 (x:=(a.length:Int)+1) (by omega) (by omega)]
   refine evp (by omega) (evp (by omega) (evb z1 (Ev.bind v1 (evp (by omega) (evp (by omega) (evb rfl (Ev.bind t1 ?_)))))))
   rw [show ((a.length:Int)+1).toNat=a.length+1 by omega,hu,List.length_replicate,hvl,show ((a.length+1:Nat):Int)-(b.length:Int)=((a.length+1-b.length:Nat):Int) by omega,w64 (x:=((a.length+1-b.length:Nat):Int)) (by omega) (by omega),w64 (x:=((a.length+1-b.length:Nat):Int)-1) (by omega) (by omega),show (b.length:Int)-1=((b.length-1:Nat):Int) by omega,show (b.length:Int)-2=((b.length-2:Nat):Int) by omega,w64 (x:=((b.length-1:Nat):Int)) (by omega) (by omega),w64 (x:=((b.length-2:Nat):Int)) (by omega) (by omega),u64 (x:=rd v ((b.length-1:Nat):Int)) (by omega) (by omega),u64 (x:=rd v ((b.length-2:Nat):Int)) (by omega) (by omega),Int.toNat_natCast]
   exact evp (by omega) (evp (by omega) (evp (by omega) (evp (by omega) (evp (by omega) (evp (by omega) r1)))))
end Go.Proofs.YtfbgaddecbiimaaGreatDoor.P
end
section
namespace Go.Proofs.YtfbgaddecbiimaaGreatDoor.P
open Go.RowKit Go.Proofs.YtfbgaddecbiimaaGreatDoorW.PrintWords Go.Proofs.YtfbgaddecbiimaaGreatDoorW.PrintLast Go.Proofs.YtfbgaddecbiimaaGreatDoorW.PrintMore
set_option linter.unusedVariables false
theorem dg_wf {l:List Int} (h:∀ x∈l,(Lit.int .u32 x).wf=true):Dg WW l:=by
 intro x hx
 have h1:=h x hx
 have h2:IntKind.u32.min=0:=rfl
 have h3:IntKind.u32.max=4294967295:=rfl
 simp only [Lit.wf,Bool.and_eq_true,decide_eq_true_eq,h2,h3] at h1
 rw [cL]
 omega
end Go.Proofs.YtfbgaddecbiimaaGreatDoor.P
end
section
namespace Go.Proofs.YtfbgaddecbiimaaGreatDoor.P
open Go.RowKit Go.Proofs.YtfbgaddecbiimaaGreatDoorW.PrintWords Go.Proofs.YtfbgaddecbiimaaGreatDoorW.PrintLast Go.Proofs.YtfbgaddecbiimaaGreatDoorW.PrintMore
set_option linter.unusedVariables false
theorem tU {a:List Int} (hl:a.length≤4) (ha:Dg RR a) (d:Nat):∀ (i:Nat) (x:Int),i=d→i≤a.length→x=vl RR (a.drop i)→Ev (fun k=>au.l0 k a x ((i:Int)-1)) (vl RR a,true):=by
 have bd:∀ i:Nat,i≤a.length→0≤vl RR (a.drop i)∧vl RR (a.drop i)<10000000000000000:=by
  intro i hi
  have h1:=gZ cQ (ha.drop i)
  have h2:=fW (B:=RR) (by decide) (show (a.drop i).length≤4 by rw [List.length_drop];omega)
  have h3:RR ^ 4=10000000000000000:=by decide
  exact ⟨bV cQ (ha.drop i),by omega⟩
 induction d with
 | zero =>
  rintro i x rfl h1 h2
  rw [List.drop_zero] at h2
  subst h2
  refine Ev.step (fun k=>by rw [au.l0]) ?_
  exact evn (by omega) (evs _)
 | succ d ih =>
  rintro i x rfl h1 h2
  have hx:=dH ha (d:Int) (by omega) (by omega)
  rw [eJ] at hx
  have b1:=bd (d+1) (by omega)
  have b0:=bd d (by omega)
  have e:x*10000+rd a (d:Int)=vl RR (a.drop d):=by
   rw [h2,eE a d (by omega),vl,eJ];omega
  have next:=ih d (x*10000+rd a (d:Int)) rfl (by omega) e
  refine Ev.step (fun k=>by rw [au.l0]) ?_
  rw [show (((d+1:Nat):Int)-1)=(d:Int) by omega,w64 (x:=x*10000) (by omega) (by omega),w64 (x:=x*10000+rd a (d:Int)) (by omega) (by omega),w64 (x:=(d:Int)-1) (by omega) (by omega)]
  exact evp (by omega) (evp (by omega) (evp (by omega) next))
theorem iC {a:List Int} {n:Int} (hl:a.length<4611686018427387904) (ha:Can RR a n):(a.length≤4→Ev (fun k=>au.f k a) (n,true))∧(4<a.length→Ev (fun k=>au.f k a) (0,false)):=by
 constructor
 ·intro h
  have:=tU h ha.1 a.length a.length 0 rfl (Nat.le_refl _) (by rw [List.drop_length];rfl)
  rw [ha.2.2] at this
  unfold au.f
  rw [w64 (x:=(a.length:Int)-1) (by omega) (by omega)]
  exact evn (by omega) this
 ·intro h
  unfold au.f
  exact evp (by omega) (evs _)
theorem wu {r b:List Int} {x m:Int} (hr:r.length<34359738368) (hb:b.length<34359738368) (cr:Can RR r x) (cb:Can RR b m) (hm:0<m) (hx:x<m*10000) (c:Nat):∀ q:Int,(10000-q).toNat≤c→0≤q→q≤9999→m*q≤x→Ev (fun k=>af.l3 k r b q) (x / m):=by
 have fin:∀ q:Int,0≤q→m*q≤x→x<m*(q+1)→x / m=q:=by
  intro q h0 h1 h2
  have d1:=Int.mul_ediv_add_emod x m
  have d2:=Int.emod_nonneg x (show m≠0 by omega)
  have d3:=Int.emod_lt_of_pos x hm
  have l1:m*q<m*(x / m+1):=by rw [Int.mul_add];omega
  have l2:m*(x / m)<m*(q+1):=by omega
  have l3:=Int.lt_of_mul_lt_mul_left l1 (Int.le_of_lt hm)
  have l4:=Int.lt_of_mul_lt_mul_left l2 (Int.le_of_lt hm)
  omega
 induction c with
 | zero=>intro q h1 h2 h3 h4;omega
 | succ c ih =>
  intro q h1 h2 h3 h4
  refine Ev.step (fun k=>by rw [af.l3]) ?_
  rw [w64 (x:=q+1) (by omega) (by omega)]
  by_cases c1:q+1<10000
  ·obtain ⟨s,s1,s2,s3⟩:=gj (k0:=q+1) (c0:=0) (by omega) cb ⟨by omega,by omega⟩ ⟨by omega,by omega⟩
   rw [Int.add_zero] at s2
   have k1:=cI (by omega) s2 cr
   by_cases c2:m*(q+1)≤x
   ·refine evp c1 (Ev.bind s1 (Ev.bind k1 (evp ?_ (ih (q+1) (by omega) (by omega) (by omega) c2))))
    unfold iz;split<;>(try split)<;>omega
   ·rw [fin q h2 h4 (by omega)]
    refine evp c1 (Ev.bind s1 (Ev.bind k1 (evn ?_ (evs _))))
    unfold iz;rw [if_neg (by omega),if_neg (by omega)];omega
  ·have e:q=9999:=by omega
   subst e
   rw [fin 9999 h2 h4 (by omega)]
   exact evn c1 (evs _)
theorem digit_l2 {r b:List Int} {x m:Int} (hr:r.length<34359738368) (hb:b.length<34359738368) (cr:Can RR r x) (cb:Can RR b m) (hm:0<m) (hx:x<m*10000) (c:Nat):∀ q:Int,q.toNat≤c→0≤q→q≤9999→Ev (fun k=>af.l2 k r b q) (x / m):=by
 have x0:=cr.gD cQ
 induction c with
 | zero =>
  intro q h1 h2 h3
  have e:q=0:=by omega
  subst e
  obtain ⟨s,s1,s2,s3⟩:=gj (k0:=0) (c0:=0) (by omega) cb ⟨by omega,by omega⟩ ⟨by omega,by omega⟩
  rw [Int.add_zero,Int.mul_zero] at s2
  have k1:=cI (by omega) s2 cr
  refine Ev.step (fun k=>by rw [af.l2]) ?_
  refine Ev.bind s1 (Ev.bind k1 (evn ?_ (wu hr hb cr cb hm hx _ 0 (Nat.le_refl _) (by omega) (by omega) (by omega))))
  unfold iz;split<;>(try split)<;>omega
 | succ c ih =>
  intro q h1 h2 h3
  obtain ⟨s,s1,s2,s3⟩:=gj (k0:=q) (c0:=0) (by omega) cb ⟨by omega,by omega⟩ ⟨by omega,by omega⟩
  rw [Int.add_zero] at s2
  have k1:=cI (by omega) s2 cr
  refine Ev.step (fun k=>by rw [af.l2]) ?_
  rw [w64 (x:=q-1) (by omega) (by omega)]
  by_cases c2:m*q≤x
  ·refine Ev.bind s1 (Ev.bind k1 (evn ?_ (wu hr hb cr cb hm hx _ q (Nat.le_refl _) h2 h3 c2)))
   unfold iz;split<;>(try split)<;>omega
  ·have hq:q≠0:=fun h=>by rw [h,Int.mul_zero] at c2;omega
   refine Ev.bind s1 (Ev.bind k1 (evp ?_ (ih (q-1) (by omega) (by omega) (by omega))))
   unfold iz;rw [if_neg (by omega),if_neg (by omega)];omega
end Go.Proofs.YtfbgaddecbiimaaGreatDoor.P
end
section
namespace Go.Proofs.YtfbgaddecbiimaaGreatDoor.P
open Go.RowKit Go.Proofs.YtfbgaddecbiimaaGreatDoorW.PrintWords Go.Proofs.YtfbgaddecbiimaaGreatDoorW.PrintLast Go.Proofs.YtfbgaddecbiimaaGreatDoorW.PrintMore
set_option linter.unusedVariables false
theorem wv {r b:List Int} {x m t low:Int} (hr:r.length<34359738368) (hb:b.length<34359738368) (cr:Can RR r x) (cb:Can RR b m) (hm:0<m) (hx:x<m*10000) (ht:0≤t∧t<4611686018427387904) (hl:0<low):Ev (fun k=>af.j2 k r b t low) (x / m):=by
 have q0:0≤t / low:=Int.ediv_nonneg ht.1 (by omega)
 have q1:t / low≤t:=Int.ediv_le_self _ ht.1
 refine Ev.step (fun k=>by rw [af.j2]) ?_
 rw [fu ht.1,w64 (x:=t / low) (by omega) (by omega)]
 refine evn (by omega) (digit_l2 hr hb cr cb hm hx _ _ (Nat.le_refl _) ?_ ?_)
 ·unfold mn;split<;>omega
 ·unfold mn;split<;>omega
theorem digit_l1 {r b:List Int} {x m t:Int} (hr:r.length<34359738368) (hb:b.length<34359738368) (cr:Can RR r x) (cb:Can RR b m) (hm:0<m) (hx:x<m*10000) (ht:0≤t∧t<4611686018427387904):Ev (fun k=>af.l1 k r b (b.length:Int) t 0 ((b.length:Int)-1)) (x / m):=by
 have lb:b.length≠0:=fun h=>by have:=(cb.ig cQ).1 h;omega
 have h1:=dH cb.1 ((b.length:Int)-1) (by omega) (by omega)
 have z1:=cb.2.1.rd (by omega)
 rw [eJ] at h1
 by_cases c:b.length=1
 ·rw [c] at h1 z1
  have e0:((1:Nat):Int)-1=0:=by omega
  rw [e0] at h1 z1
  have hj:=wv hr hb cr cb hm hx ht (low:=rd b 0) (by omega)
  have em:mx 0 (wrap64 (((1:Nat):Int)-2))=0:=by rw [w64 (by omega) (by omega)];unfold mx;split<;>omega
  refine Ev.step (fun k=>by rw [af.l1]) ?_
  rw [c,em,e0,w64 (x:=0*10000) (by omega) (by omega),w64 (x:=0*10000+rd b 0) (by omega) (by omega),w64 (x:=0-1) (by omega) (by omega)]
  refine evp (by omega) (evp (by omega) (evp (by omega) ?_))
  refine Ev.step (fun k=>by rw [af.l1]) ?_
  rw [em]
  exact evn (by omega) (evp (by omega) (evp (by omega) hj))
 ·have h2:=dH cb.1 ((b.length:Int)-2) (by omega) (by omega)
  rw [eJ] at h2
  have em:mx 0 (wrap64 ((b.length:Int)-2))=(b.length:Int)-2:=by rw [w64 (by omega) (by omega)];unfold mx;split<;>omega
  have hj:=wv hr hb cr cb hm hx ht (low:=(0*10000+rd b ((b.length:Int)-1))*10000+rd b ((b.length:Int)-2)) (by omega)
  refine Ev.step (fun k=>by rw [af.l1]) ?_
  rw [em,w64 (x:=0*10000) (by omega) (by omega),w64 (x:=0*10000+rd b ((b.length:Int)-1)) (by omega) (by omega),w64 (x:=(b.length:Int)-1-1) (by omega) (by omega),show (b.length:Int)-1-1=(b.length:Int)-2 by omega]
  refine evp (by omega) (evp (by omega) (evp (by omega) ?_))
  refine Ev.step (fun k=>by rw [af.l1]) ?_
  rw [em,w64 (x:=(0*10000+rd b ((b.length:Int)-1))*10000) (by omega) (by omega),w64 (x:=(0*10000+rd b ((b.length:Int)-1))*10000+rd b ((b.length:Int)-2)) (by omega) (by omega),w64 (x:=(b.length:Int)-2-1) (by omega) (by omega)]
  refine evp (by omega) (evp (by omega) (evp (by omega) ?_))
  refine Ev.step (fun k=>by rw [af.l1]) ?_
  rw [em]
  exact evn (by omega) (evn (by omega) hj)
theorem digit_l0 {r b:List Int} {x m:Int} (hr:r.length<34359738368) (hb:b.length<34359738368) (cr:Can RR r x) (cb:Can RR b m) (hm:0<m) (hx:x<m*10000) (c:Nat):∀ (t i:Int),(i+1-mx 0 ((b.length:Int)-2)).toNat=c→-1≤i→i≤b.length→0≤t→t<10000 ^ (3-c)→c≤3→Ev (fun k=>af.l0 k r b (b.length:Int) t 0 i) (x / m):=by
 have em:wrap64 ((b.length:Int)-2)=(b.length:Int)-2:=by rw [w64 (by omega) (by omega)]
 have hlo:0≤mx 0 ((b.length:Int)-2):=by unfold mx;split<;>omega
 induction c with
 | zero =>
  intro t i h1 h2 h3 h4 h5 h6
  have:=digit_l1 hr hb cr cb hm hx (t:=t) ⟨h4,Int.lt_trans h5 (by decide)⟩
  refine Ev.step (fun k=>by rw [af.l0]) ?_
  rw [em,w64 (x:=(b.length:Int)-1) (by omega) (by omega)]
  exact evn (by omega) this
 | succ c ih =>
  intro t i h1 h2 h3 h4 h5 h6
  have hp:(10000:Int) ^ (3-(c+1))*10000=10000 ^ (3-c):=by
   rw [← Int.pow_succ];congr 1;omega
  have hq:(10000:Int) ^ (3-c)≤10000 ^ 3:=fW (by decide) (by omega)
  have hq3:(10000:Int) ^ 3=1000000000000:=by decide
  refine Ev.step (fun k=>by rw [af.l0]) ?_
  rw [em,w64 (x:=t*10000) (by omega) (by omega),w64 (x:=i-1) (by omega) (by omega)]
  refine evp (by omega) ?_
  by_cases c1:i<(r.length:Int)
  ·have hx':=dH cr.1 i (by omega) (by omega)
   rw [eJ] at hx'
   rw [w64 (x:=t*10000+rd r i) (by omega) (by omega)]
   exact evp c1 (evp (by omega) (ih (t*10000+rd r i) (i-1) (by omega) (by omega) (by omega) (by omega) (by omega) (by omega)))
  ·exact evn c1 (ih (t*10000) (i-1) (by omega) (by omega) (by omega) (by omega) (by omega) (by omega))
theorem xr {r b:List Int} {x m:Int} (hr:r.length<34359738368) (hb:b.length<34359738368) (cr:Can RR r x) (cb:Can RR b m) (hm:0<m) (hx:x<m*10000):Ev (fun k=>af.f k r b) (x / m):=by
 unfold af.f
 have hlo:(((b.length:Int)+1-mx 0 ((b.length:Int)-2)).toNat)≤3:=by unfold mx;split<;>omega
 exact digit_l0 hr hb cr cb hm hx _ 0 _ rfl (by omega) (Int.le_refl _) (by omega) (Int.pow_pos (by decide)) hlo
end Go.Proofs.YtfbgaddecbiimaaGreatDoor.P
end
section
namespace Go.Proofs.YtfbgaddecbiimaaGreatDoor.P
open Go.RowKit Go.Proofs.YtfbgaddecbiimaaGreatDoorW.PrintWords Go.Proofs.YtfbgaddecbiimaaGreatDoorW.PrintLast Go.Proofs.YtfbgaddecbiimaaGreatDoorW.PrintMore
set_option linter.unusedVariables false
theorem alg_rd {x m q d a R va:Int} (h:x+m*q=va):(x*R+a-m*d)+m*(d+R*q)=a+R*va:=by grind
theorem r_dm_l0 {a b:List Int} {n m:Int} (hn:a.length<17179869184) (hb:b.length<17179869184) (ha:Can RR a n) (cb:Can RR b m) (hm:0<m) (d:Nat):∀ (i:Nat) (q r:List Int) (x:Int),i=d→i≤a.length→q.length=a.length→Dg RR (q.drop i)→Can RR r x→x<m→x+m*vl RR (q.drop i)=vl RR (a.drop i)→(∀ j:Nat,j<i→rd q (j:Int)=0) →
 ∃ q' r',Ev (fun k=>aw.l0 k a b q r ((i:Int)-1)) (q',r')∧Can RR q' (n / m)∧Can RR r' (n % m)∧q'.length≤a.length:=by
 induction d with
 | zero =>
  rintro i q r x rfl h1 h2 h3 h4 h5 h6 h7
  rw [List.drop_zero,List.drop_zero,ha.2.2] at h6
  rw [List.drop_zero] at h3
  have x0:=h4.gD cQ
  obtain ⟨t,t1,t2,t3⟩:=kK (l:=q) (by omega) h3
  have e1:n / m=vl RR q:=by rw [← h6,Int.add_mul_ediv_left _ _ (by omega),Int.ediv_eq_zero_of_lt x0 h5,Int.zero_add]
  have e2:n % m=x:=by rw [← h6,Int.add_mul_emod_self_left,Int.emod_eq_of_lt x0 h5]
  refine ⟨t,r,?_,by rw [e1];exact t2,by rw [e2];exact h4,by omega⟩
  refine Ev.step (fun k=>by rw [aw.l0]) ?_
  exact evn (by omega) (Ev.bind t1 (evs _))
 | succ d ih =>
  rintro i q r x rfl h1 h2 h3 h4 h5 h6 h7
  have hx:=dH ha.1 (d:Int) (by omega) (by omega)
  rw [eJ] at hx
  have x0:=h4.gD cQ
  have lr:=gQ cb h4 (by omega)
  obtain ⟨t,t1,t2,t3⟩:=gj (k0:=10000) (c0:=rd a (d:Int)) (by omega) h4 ⟨by omega,by omega⟩ ⟨hx.1,by omega⟩
  have k1:=cI (by omega) t2 cb
  by_cases c1:x*10000+rd a (d:Int)<m
  ·obtain ⟨q',r',e1,e2⟩:=ih d q t (x*10000+rd a (d:Int)) rfl (by omega) h2
    (by rw [eE q d (by omega)];exact Dg.mk (by rw [h7 d (by omega)];omega) (by rw [h7 d (by omega)];decide) h3) t2 c1
    (by
     have:=alg_rd (R:=RR) (a:=rd a (d:Int)) (d:=0) h6
     rw [eE q d (by omega),eE a d (by omega),vl,vl,h7 d (by omega)]
     rw [Int.mul_zero,Int.sub_zero] at this
     exact this) (fun j hj=>h7 j (by omega))
   refine ⟨q',r',?_,e2⟩
   refine Ev.step (fun k=>by rw [aw.l0]) ?_
   rw [show (((d+1:Nat):Int)-1)=(d:Int) by omega,w64 (x:=(d:Int)-1) (by omega) (by omega)]
   refine evp (by omega) (evp (by omega) (evp (by omega) (Ev.bind t1 (Ev.bind k1 (evp ?_ e1)))))
   unfold iz;rw [if_pos c1];omega
  ·have d1:=Int.mul_ediv_add_emod (x*10000+rd a (d:Int)) m
   have d2:=Int.emod_nonneg (x*10000+rd a (d:Int)) (show m≠0 by omega)
   have d3:=Int.emod_lt_of_pos (x*10000+rd a (d:Int)) hm
   have hg:=xr (r:=t) (b:=b) (by omega) (by omega) t2 cb hm (by omega)
   have g0:0≤(x*10000+rd a (d:Int)) / m:=Int.ediv_nonneg (by omega) (by omega)
   have g1:(x*10000+rd a (d:Int)) / m<10000:=Int.ediv_lt_of_lt_mul hm (by omega)
   generalize hG:(x*10000+rd a (d:Int)) / m=g at *
   obtain ⟨s,s1,s2,s3⟩:=gj (k0:=g) (c0:=0) (by omega) cb ⟨by omega,by omega⟩ ⟨by omega,by omega⟩
   rw [Int.add_zero] at s2
   obtain ⟨y,y1,y2,y3⟩:=r_Sub_sp (by omega) t2 s2 (by omega)
   have hs:=rY q (d:Int) g (by omega)
   rw [Int.toNat_natCast] at hs
   obtain ⟨q',r',e1,e2⟩:=ih d (q.set d g) y (x*10000+rd a (d:Int)-m*g) rfl (by omega) (by simpa using h2)
    (by rw [dw _ _ _ (by omega)];exact Dg.mk g0 (by rw [eJ];exact g1) h3) y2 (by omega)
    (by
     rw [dw _ _ _ (by omega),eE a d (by omega),vl,vl]
     exact alg_rd h6)
    (fun j hj=>by
     have:=zi q (d:Int) (j:Int) g (by omega)
     rw [Int.toNat_natCast] at this
     rw [this]
     exact h7 j (by omega))
   refine ⟨q',r',?_,e2⟩
   refine Ev.step (fun k=>by rw [aw.l0]) ?_
   rw [show (((d+1:Nat):Int)-1)=(d:Int) by omega,w64 (x:=(d:Int)-1) (by omega) (by omega),Int.toNat_natCast]
   refine evp (by omega) (evp (by omega) (evp (by omega) (Ev.bind t1 (Ev.bind k1 (evn ?_ (Ev.bind hg (evp (by omega) (evb rfl ?_))))))))
   ·unfold iz;rw [if_neg c1];split<;>omega
   ·rw [hs]
    exact Ev.bind s1 (Ev.bind y1 e1)
end Go.Proofs.YtfbgaddecbiimaaGreatDoor.P
end
section
namespace Go.Proofs.YtfbgaddecbiimaaGreatDoor.P
open Go.RowKit Go.Proofs.YtfbgaddecbiimaaGreatDoorW.PrintWords Go.Proofs.YtfbgaddecbiimaaGreatDoorW.PrintLast Go.Proofs.YtfbgaddecbiimaaGreatDoorW.PrintMore
set_option linter.unusedVariables false
theorem jJ {a:Int} (h0:0≤a) (h1:a<100000000000000000):∃ r,Ev (fun k=>ax.f k a) r∧Can RR r a:=by
 by_cases c:a<10000000000000
 ·exact r_Int_sp h0 c
 ·obtain ⟨r,h2,h3⟩:=vD a (a / 10000).toNat [a % 10000] (a / 10000) (by omega) (by omega) (by simp;omega) (Dg.mk (by omega) (by rw [eJ];omega) (Dg.nil _)) (fun h=>by omega) (by
   show a % 10000+RR*0+a / 10000*RR ^ 1=a
   rw [eJ];omega)
  refine ⟨r,?_,h3⟩
  refine Ev.congr (fun k=>by rw [ax.f]) ?_
  refine Ev.step (fun k=>by rw [ax.l0]) ?_
  rw [fO h0,fu h0,w64 (x:=a / 10000) (by omega) (by omega)]
  exact evp (by omega) (evp (by simp) h2)
theorem tV {a b:List Int} {n m:Int} (hn:a.length<1073741824) (hb:b.length<1073741824) (ha:Can RR a n) (cb:Can RR b m) (hm:0<m) :
 ∃ q r,Ev (fun k=>aw.f k a b) (q,r)∧Can RR q (n / m)∧Can RR r (n % m)∧q.length<1073741824∧r.length<1073741824:=by
 have n0:=ha.gD cQ
 have hc:=cI (by omega) ha cb
 have r0:=Int.emod_nonneg n (show m≠0 by omega)
 have r1:=Int.emod_lt_of_pos n hm
 have fin:∀ q r,Can RR q (n / m)→Can RR r (n % m)→q.length<1073741824∧r.length<1073741824:=by
  intro q r hq hr
  have l1:=gQ ha hq (Int.ediv_le_self _ n0)
  have l2:=gQ cb hr (by omega)
  omega
 have key:∃ q r,Ev (fun k=>aw.f k a b) (q,r)∧Can RR q (n / m)∧Can RR r (n % m):=by
  by_cases c1:n<m
  ·refine ⟨[],a,?_,by rw [Int.ediv_eq_zero_of_lt n0 c1];exact Can.zero _,by rw [Int.emod_eq_of_lt n0 c1];exact ha⟩
   unfold aw.f
   refine Ev.bind hc (evp ?_ (evs _))
   unfold iz;rw [if_pos c1];omega
  ·have hcm:¬ iz n m<0:=by unfold iz;rw [if_neg c1];split<;>omega
   have lba:=gQ ha cb (by omega)
   obtain ⟨la1,la2⟩:=iC (by omega) ha
   obtain ⟨lb1,lb2⟩:=iC (by omega) cb
   by_cases c2:a.length≤4
   ·have hlt:=ha.lt cQ
    have h4:=fW (B:=RR) (by decide) c2
    have h5:RR ^ 4=10000000000000000:=by decide
    have q0:0≤n / m:=Int.ediv_nonneg n0 (by omega)
    have q1:n / m≤n:=Int.ediv_le_self _ n0
    obtain ⟨x,x1,x2⟩:=jJ (a:=n / m) q0 (by omega)
    obtain ⟨y,y1,y2⟩:=jJ (a:=n % m) r0 (by omega)
    refine ⟨x,y,?_,x2,y2⟩
    unfold aw.f
    refine Ev.bind hc (evn hcm (Ev.bind (la1 c2) (evp rfl (Ev.bind (lb1 (by omega)) (evn (show ¬ m=0 by omega) ?_)))))
    rw [fu n0,fO n0,w64 (x:=n / m) (by omega) (by omega)]
    exact Ev.bind x1 (Ev.bind y1 (evs _))
   ·by_cases c3:b.length=1
    ·have hx:=dH cb.1 0 (by omega) (by omega)
     rw [eJ] at hx
     have em:m=rd b 0:=by
      have e:=dz RR b 0 (by omega)
      rw [show 0+1=b.length by omega,List.take_length,cb.2.2] at e
      simpa [vl] using e
     obtain ⟨q,q1,q2,q3⟩:=xt (by omega) ha (K:=m) ⟨by omega,by omega⟩
     obtain ⟨y,y1,y2⟩:=jJ (a:=n % m) r0 (by omega)
     refine ⟨q,y,?_,q2,y2⟩
     unfold aw.f
     refine Ev.bind hc (evn hcm (Ev.bind (la2 (by omega)) (evn (by simp) (evp (by omega) (evp (by omega) ?_)))))
     rw [← em]
     exact Ev.bind q1 (Ev.bind y1 (evs _))
    ·obtain ⟨q,r,e1,e2,e3,e4⟩:=r_dm_l0 (by omega) (by omega) ha cb hm a.length a.length (List.replicate a.length 0) [] 0 rfl (Nat.le_refl _) (by simp) (by rw [List.drop_eq_nil_of_le (by simp)];exact Dg.nil _) (Can.zero _) hm (by rw [List.drop_eq_nil_of_le (by simp),List.drop_length];simp [vl]) (fun j hj=>by rw [lD _ _ (by simpa using hj)];simp)
     refine ⟨q,r,?_,e2,e3⟩
     unfold aw.f
     refine Ev.bind hc (evn hcm (Ev.bind (la2 (by omega)) (evn (by simp) (evn (by omega) (evp (by omega) (evp (by omega) ?_))))))
     rw [w64 (x:=(a.length:Int)-1) (by omega) (by omega),Int.toNat_natCast]
     exact e1
 obtain ⟨q,r,e1,e2,e3⟩:=key
 exact ⟨q,r,e1,e2,e3,fin q r e2 e3⟩
end Go.Proofs.YtfbgaddecbiimaaGreatDoor.P
end
section
namespace Go.Proofs.YtfbgaddecbiimaaGreatDoor.P
open Go.RowKit Go.Proofs.YtfbgaddecbiimaaGreatDoorW.PrintWords Go.Proofs.YtfbgaddecbiimaaGreatDoorW.PrintLast Go.Proofs.YtfbgaddecbiimaaGreatDoorW.PrintMore
set_option linter.unusedVariables false
def gI (a b:Int):Int:=((Int.gcd a b:Nat):Int)
theorem gI_comm (a b:Int):gI a b=gI b a:=by unfold gI;rw [Int.gcd_comm]
theorem qM {a:Int} (h:0≤a):gI a 0=a:=by
 unfold gI
 rw [Int.gcd_zero_right]
 omega
theorem gI_sub (a b k:Int):gI b (a-k*b)=gI a b:=by
 unfold gI
 rw [Int.gcd_sub_mul_right_right,Int.gcd_comm]
theorem sT (a b:Int):gI b (a % b)=gI a b:=by
 rw [Int.emod_def,Int.mul_comm b]
 exact gI_sub a b (a / b)
theorem gI_le {a b:Int} (h:0<b):gI a b≤b:=by
 unfold gI
 exact Int.le_of_dvd h (Int.gcd_dvd_right a b)
theorem r_gcd_l1 (c:Nat):∀ x y:Int,y.toNat=c→0≤x→x<100000000000000000→0≤y→y<100000000000000000→∃ r,Ev (fun k=>an.l1 k x y) r∧Can RR r (gI x y):=by
 induction c using Nat.strongRecOn with
 | _ c ih =>
  intro x y hc x0 x1 y0 y1
  by_cases c1:y>0
  ·have m0:=Int.emod_nonneg x (show y≠0 by omega)
   have m1:=Int.emod_lt_of_pos x c1
   obtain ⟨r,r1,r2⟩:=ih (x % y).toNat (by omega) y (x % y) rfl y0 y1 m0 (by omega)
   rw [sT] at r2
   refine ⟨r,?_,r2⟩
   refine Ev.step (fun k=>by rw [an.l1]) ?_
   rw [fO x0]
   exact evp c1 (evn (by omega) r1)
  ·have e:y=0:=by omega
   subst e
   obtain ⟨r,r1,r2⟩:=jJ x0 x1
   rw [qM x0]
   refine ⟨r,?_,r2⟩
   refine Ev.step (fun k=>by rw [an.l1]) ?_
   exact evn (by omega) (Ev.bind r1 (evs _))
theorem r_gcd_l0 (c:Nat):∀ (a b:List Int) (n m:Int),m.toNat=c→a.length<1073741824→b.length<1073741824→Can RR a n→Can RR b m→∃ r,Ev (fun k=>an.l0 k a b) r∧Can RR r (gI n m):=by
 induction c using Nat.strongRecOn with
 | _ c ih =>
  intro a b n m hc la lb ha hb
  have n0:=ha.gD cQ
  have m0:=hb.gD cQ
  have hz:=hb.ig cQ
  by_cases c1:m=0
  ·have e:=hz.2 c1
   rw [c1,qM n0]
   refine ⟨a,?_,ha⟩
   refine Ev.step (fun k=>by rw [an.l0]) ?_
   exact evn (by omega) (evs _)
  ·have e:b.length≠0:=fun h=>c1 (hz.1 h)
   have mp:0<m:=by omega
   obtain ⟨la1,la2⟩:=iC (by omega) ha
   obtain ⟨lb1,lb2⟩:=iC (by omega) hb
   have h5:RR ^ 4=10000000000000000:=by decide
   have slow:∀ x y,∃ r,Ev (fun k=>an.j1 k a b x y false) r∧Can RR r (gI n m):=by
    intro x y
    have r0:=Int.emod_nonneg n (show m≠0 by omega)
    have r1:=Int.emod_lt_of_pos n mp
    obtain ⟨q,r,d1,d2,d3,d4,d5⟩:=tV la lb ha hb mp
    obtain ⟨z,z1,z2⟩:=ih (n % m).toNat (by omega) b r m (n % m) rfl lb d5 hb d3
    rw [sT] at z2
    refine ⟨z,?_,z2⟩
    refine Ev.step (fun k=>by rw [an.j1]) ?_
    exact evn (by simp) (Ev.bind d1 z1)
   by_cases c2:a.length≤4
   ·by_cases c3:b.length≤4
    ·have hlt:=ha.lt cQ
     have h4:=fW (B:=RR) (by decide) c2
     have hlt':=hb.lt cQ
     have h4':=fW (B:=RR) (by decide) c3
     obtain ⟨z,z1,z2⟩:=r_gcd_l1 _ n m rfl n0 (by omega) m0 (by omega)
     refine ⟨z,?_,z2⟩
     refine Ev.step (fun k=>by rw [an.l0]) ?_
     refine evp (by omega) (Ev.bind (la1 c2) (Ev.bind (lb1 c3) (evp rfl ?_)))
     refine Ev.step (fun k=>by rw [an.j1]) ?_
     exact evp rfl z1
    ·obtain ⟨z,z1,z2⟩:=slow n 0
     refine ⟨z,?_,z2⟩
     refine Ev.step (fun k=>by rw [an.l0]) ?_
     exact evp (by omega) (Ev.bind (la1 c2) (Ev.bind (lb2 (by omega)) (evp rfl z1)))
   ·by_cases c3:b.length≤4
    ·obtain ⟨z,z1,z2⟩:=slow 0 m
     refine ⟨z,?_,z2⟩
     refine Ev.step (fun k=>by rw [an.l0]) ?_
     exact evp (by omega) (Ev.bind (la2 (by omega)) (Ev.bind (lb1 c3) (evn (by simp) z1)))
    ·obtain ⟨z,z1,z2⟩:=slow 0 0
     refine ⟨z,?_,z2⟩
     refine Ev.step (fun k=>by rw [an.l0]) ?_
     exact evp (by omega) (Ev.bind (la2 (by omega)) (Ev.bind (lb2 (by omega)) (evn (by simp) z1)))
theorem r_GCD_sp {a b:List Int} {n m:Int} (la:a.length<1073741824) (lb:b.length<1073741824) (ha:Can RR a n) (hb:Can RR b m):∃ r,Ev (fun k=>an.f k a b) r∧Can RR r (gI n m):=by
 unfold an.f
 exact r_gcd_l0 _ a b n m rfl la lb ha hb
end Go.Proofs.YtfbgaddecbiimaaGreatDoor.P
end
section
namespace Go.Proofs.YtfbgaddecbiimaaGreatDoor.P
open Go.RowKit Go.Proofs.YtfbgaddecbiimaaGreatDoorW.PrintWords Go.Proofs.YtfbgaddecbiimaaGreatDoorW.PrintLast Go.Proofs.YtfbgaddecbiimaaGreatDoorW.PrintMore
set_option linter.unusedVariables false
theorem gf {r:List Int} {v:Int} (hr:Can WW r v) (hl:r.length≤2):cY.f r=some (v,true):=by
 unfold cY.f
 by_cases c:r.length=0
 ·rw [(hr.ig bf).1 c,if_pos (by omega)]
 ·have e:=ob (a:=r) (by omega)
  have v0:=hr.gD bf
  have h0:=dH hr.1 0 (by omega) (by omega)
  rw [cL] at h0
  rw [hr.2.2] at e
  by_cases h1:r.length=1
  ·rw [h1] at e
   have e2:v=rd r 0:=by simpa [vl] using e
   rw [if_neg (by omega),if_pos (by omega),if_pos (by omega),← e2,u64 (x:=v) (by omega) (by omega)]
  ·have h2:r.length=2:=by omega
   have hx:=dH hr.1 1 (by omega) (by omega)
   rw [cL] at hx
   have e3:=dz WW r 0 (by omega)
   have e4:v=rd r 1*4294967296+rd r 0:=by
    rw [h2] at e
    have f1:((2:Nat):Int)-1=1:=rfl
    have f2:(2:Nat)-1=0+1:=rfl
    rw [f1,f2,e3,cL,List.take_zero] at e
    simp only [vl] at e
    rw [e]
    have f3:((0:Nat):Int)=0:=rfl
    have f4:(4294967296:Int) ^ 0=1:=rfl
    have f5:(4294967296:Int) ^ (0+1)=4294967296:=rfl
    rw [f3,f4,f5]
    omega
   rw [if_neg (by omega),if_neg (by omega),if_pos (by omega),if_pos (by omega),if_pos (by omega),u64 (x:=rd r 1) (by omega) (by omega),u64 (x:=rd r 0) (by omega) (by omega),u64 (x:=rd r 1*4294967296) (by omega) (by omega),or64 hx h0,e4]
theorem AQ {n m p q:Int}:m*q-n*(-p)=p*n+q*m:=by grind
theorem AP {n m p q:Int}:n*p-m*(-q)=p*n+q*m:=by grind
theorem pR {a b:List Int} {n m p q:Int} (la:a.length<1073741824) (lb:b.length<1073741824) (ha:Can WW a n) (hb:Can WW b m) (hs:(0≤p∧q≤0)∨(p≤0∧0≤q))
 (hp:-4611686018427387904≤p∧p≤4611686018427387904) (hq:-4611686018427387904≤q∧q≤4611686018427387904) (h:0≤p*n+q*m):∃ r,Ev (fun k=>aV.f k a b p q) r∧Can WW r (p*n+q*m):=by
 have hW2:WW ^ 2=18446744073709551616:=by decide
 have pos:p≤0→0≤q→∃ r,Ev (fun k=>aV.j0 k a b p q true) r∧Can WW r (p*n+q*m):=by
  intro p0 q0
  obtain ⟨t,t1,t2⟩:=fz (a:=q) q0 (by omega)
  have t3:=t2.iu (k:=2) cZ (by omega)
  obtain ⟨x,x1,x2,x3⟩:=jM (by omega) hb t2
  obtain ⟨s,s1,s2⟩:=fz (a:=-p) (by omega) (by omega)
  have s3:=s2.iu (k:=2) cZ (by omega)
  obtain ⟨y,y1,y2,y3⟩:=jM (by omega) ha s2
  rw [← AQ] at h
  obtain ⟨z,z1,z2,z3⟩:=pC (by omega) x2 y2 (by omega)
  rw [AQ] at z2
  refine ⟨z,?_,z2⟩
  refine Ev.step (fun k=>by rw [aV.j0]) ?_
  rw [w64 (x:=-p) (by omega) (by omega),u64 (x:=-p) (by omega) (by omega),u64 (x:=q) (by omega) (by omega)]
  exact evp rfl (Ev.bind t1 (Ev.bind x1 (Ev.bind s1 (Ev.bind y1 (Ev.bind z1 (evs _))))))
 have neg:0≤p→q≤0→∃ r,Ev (fun k=>aV.j0 k a b p q false) r∧Can WW r (p*n+q*m):=by
  intro p0 q0
  obtain ⟨t,t1,t2⟩:=fz (a:=p) p0 (by omega)
  have t3:=t2.iu (k:=2) cZ (by omega)
  obtain ⟨x,x1,x2,x3⟩:=jM (by omega) ha t2
  obtain ⟨s,s1,s2⟩:=fz (a:=-q) (by omega) (by omega)
  have s3:=s2.iu (k:=2) cZ (by omega)
  obtain ⟨y,y1,y2,y3⟩:=jM (by omega) hb s2
  rw [← AP] at h
  obtain ⟨z,z1,z2,z3⟩:=pC (by omega) x2 y2 (by omega)
  rw [AP] at z2
  refine ⟨z,?_,z2⟩
  refine Ev.step (fun k=>by rw [aV.j0]) ?_
  rw [w64 (x:=-q) (by omega) (by omega),u64 (x:=-q) (by omega) (by omega),u64 (x:=p) (by omega) (by omega)]
  exact evn (by simp) (Ev.bind t1 (Ev.bind x1 (Ev.bind s1 (Ev.bind y1 (Ev.bind z1 (evs _))))))
 unfold aV.f
 by_cases c1:p<0
 ·obtain ⟨r,r1,r2⟩:=pos (by omega) (by omega)
  exact ⟨r,evp c1 r1,r2⟩
 ·by_cases c2:q>0
  ·obtain ⟨r,r1,r2⟩:=pos (by omega) (by omega)
   rw [decide_eq_true c2]
   exact ⟨r,evn c1 r1,r2⟩
  ·obtain ⟨r,r1,r2⟩:=neg (by omega) (by omega)
   rw [decide_eq_false c2]
   exact ⟨r,evn c1 r1,r2⟩
theorem alg_lin1 {p q x y T a b d:Int}:p*(T*x+a)+q*(T*y+b)=T*(p*x+q*y+q)+p*a+(q*b-q*T):=by grind
theorem alg_lin2 {p q x y T a b d:Int}:p*(T*x+a)+q*(T*y+b)=T*(p*x+q*y+p)+(p*a-p*T)+q*b:=by grind
theorem zM {p q x y T a b d:Int} (hT:0<T) (ha:0≤a∧a<T) (hb:0≤b∧b<T) (hs:(0≤p∧q≤0)∨(p≤0∧0≤q)) (h1:d≤p*x+q*y+p) (h2:d≤p*x+q*y+q):T*d≤p*(T*x+a)+q*(T*y+b):=by
 rcases hs with ⟨h3,h4⟩ | ⟨h3,h4⟩
 ·have k1:0≤p*a:=Int.mul_nonneg h3 ha.1
  have k2:q*T≤q*b:=Int.mul_le_mul_of_nonpos_left h4 (by omega)
  have k3:T*d≤T*(p*x+q*y+q):=Int.mul_le_mul_of_nonneg_left h2 (by omega)
  rw [alg_lin1 (d:=d)]
  omega
 ·have k1:0≤q*b:=Int.mul_nonneg h4 hb.1
  have k2:p*T≤p*a:=Int.mul_le_mul_of_nonpos_left h3 (by omega)
  have k3:T*d≤T*(p*x+q*y+p):=Int.mul_le_mul_of_nonneg_left h1 (by omega)
  rw [alg_lin2 (d:=d)]
  omega
theorem nX {k r:Int} (hk:0≤k∧k≤2147483648) (hr:-2147483648≤r∧r≤2147483648):-4611686018427387904≤k*r∧k*r≤4611686018427387904:=by
 have h1:k*r≤k*2147483648:=Int.mul_le_mul_of_nonneg_left hr.2 hk.1
 have h2:k*(-2147483648)≤k*r:=Int.mul_le_mul_of_nonneg_left hr.1 hk.1
 omega
theorem alg_l1 {p q r s x y k u v:Int} (hu:u=p*x+q*y) (hv:v=r*x+s*y):u-k*v=(p-k*r)*x+(q-k*s)*y:=by rw [hu,hv];grind
theorem alg_l2 {p q r s n m k:Int}:(p-k*r)*n+(q-k*s)*m=(p*n+q*m)-k*(r*n+s*m):=by grind
theorem alg_l3 {p q r s n m k:Int}:((k+1)*r-p)*n+((k+1)*s-q)*m=(k+1)*(r*n+s*m)-(p*n+q*m):=by grind
theorem alg_l4 {u p v r k:Int}:(u-k*v)+(p-k*r)=(u+p)-k*(v+r):=by grind
theorem alg_l5 {x y p q r s u v k g h:Int} (hu:u=p*x+q*y) (hv:v=r*x+s*y):((k+1)*r-p)*x+((k+1)*s-q)*y+((k+1)*g-h)=(k+1)*(v+g)-(u+h):=by rw [hu,hv];grind
theorem tq {k A:Int}:(k+1)*A=k*A+A:=by grind
end Go.Proofs.YtfbgaddecbiimaaGreatDoor.P
end
section
namespace Go.Proofs.YtfbgaddecbiimaaGreatDoor.P
open Go.RowKit Go.Proofs.YtfbgaddecbiimaaGreatDoorW.PrintWords Go.Proofs.YtfbgaddecbiimaaGreatDoorW.PrintLast Go.Proofs.YtfbgaddecbiimaaGreatDoorW.PrintMore
set_option linter.unusedVariables false
def uU (n m:Int) (R:List Int×List Int×Bool):Prop:=R.2.2=true→∃ C D,Can WW R.1 C∧Can WW R.2.1 D∧gI C D=gI n m∧D≤C∧D<m∧C≤n
theorem zQ {a b:List Int} {n m p q r s:Int} (la:a.length<1073741824) (lb:b.length<1073741824) (ha:Can WW a n) (hb:Can WW b m)
 (h1:(0≤p∧q≤0)∨(p≤0∧0≤q)) (h2:(0≤r∧s≤0)∨(r≤0∧0≤s))
 (bp:-2147483648≤p∧p≤2147483648) (bq:-2147483648≤q∧q≤2147483648) (br:-2147483648≤r∧r≤2147483648) (bs:-2147483648≤s∧s≤2147483648)
 (hA:0≤p*n+q*m) (hB:0≤r*n+s*m) (hg:gI (p*n+q*m) (r*n+s*m)=gI n m) (hn:p*n+q*m≤n) (hBA:r*n+s*m≤p*n+q*m) (hm:q≠0→r*n+s*m<m) :
 ∃ R,Ev (fun k=>aN.j2 k a b p q r s) R∧uU n m R:=by
 by_cases c:q=0
 ·refine ⟨([],[],false),?_,fun h=>by simp at h⟩
  refine Ev.step (fun k=>by rw [aN.j2]) ?_
  exact evp c (evs _)
 ·obtain ⟨x,x1,x2⟩:=pR la lb ha hb h1 (by omega) (by omega) hA
  obtain ⟨y,y1,y2⟩:=pR la lb ha hb h2 (by omega) (by omega) hB
  refine ⟨(x,y,true),?_,fun _=>⟨_,_,x2,y2,hg,hBA,hm c,hn⟩⟩
  refine Ev.step (fun k=>by rw [aN.j2]) ?_
  exact evn c (Ev.bind x1 (Ev.bind y1 (evs _)))
theorem zP {a b:List Int} {n m x y T a' b':Int} (la:a.length<1073741824) (lb:b.length<1073741824) (ha:Can WW a n) (hb:Can WW b m) (hT:0<T) (hn:n=T*x+a') (hm:m=T*y+b') (ha':0≤a'∧a'<T) (hb':0≤b'∧b'<T) (c:Nat) :
 ∀ p q r s u v:Int,(v+r).toNat=c→u=p*x+q*y→v=r*x+s*y →
 ((0≤p∧q≤0∧r≤0∧0≤s)∨(p≤0∧0≤q∧0≤r∧s≤0)) →
 (0≤u+p∧u+p≤2147483648)→(0≤u+q∧u+q≤2147483648)→(0≤v+r∧v+r≤2147483648)→(0≤v+s∧v+s≤2147483648) →
 gI (p*n+q*m) (r*n+s*m)=gI n m→r*n+s*m≤m→p*n+q*m≤n→r*n+s*m≤p*n+q*m→(q≠0→r*n+s*m<m)→m≤n →
 ∃ R,Ev (fun k=>aN.l0 k a b p q r s u v) R∧uU n m R:=by
 induction c using Nat.strongRecOn with
 | _ c ih =>
  intro p q r s u v hc hu hv hs bp bq br bs hg hBm hAn hBA hq hmn
  have hA:0≤p*n+q*m:=by
   have:=zM (p:=p) (q:=q) (x:=x) (y:=y) (d:=0) hT ha' hb' (by omega) (by rw [← hu];omega) (by rw [← hu];omega)
   rw [hn,hm];omega
  have hB:0≤r*n+s*m:=by
   have:=zM (p:=r) (q:=s) (x:=x) (y:=y) (d:=0) hT ha' hb' (by omega) (by rw [← hv];omega) (by rw [← hv];omega)
   rw [hn,hm];omega
  obtain ⟨R0,e1,e2⟩:=zQ (p:=p) (q:=q) (r:=r) (s:=s) la lb ha hb (by omega) (by omega) (by omega) (by omega) (by omega) (by omega) hA hB hg hAn hBA hq
  have stop:Ev (fun k=>aN.j1 k a b p q r s u v false) R0:=by
   refine Ev.step (fun k=>by rw [aN.j1]) ?_
   exact evn (by simp) e1
  by_cases c1:v+r=0
  ·refine ⟨R0,?_,e2⟩
   refine Ev.step (fun k=>by rw [aN.l0]) ?_
   rw [w64 (x:=v+r) (by omega) (by omega)]
   exact evp c1 stop
  ·by_cases c2:v+s=0
   ·refine ⟨R0,?_,e2⟩
    refine Ev.step (fun k=>by rw [aN.l0]) ?_
    rw [w64 (x:=v+r) (by omega) (by omega),w64 (x:=v+s) (by omega) (by omega),show (v+s != 0)=false by simp [c2]]
    exact evn c1 stop
   ·have step:∀ R,Ev (fun k=>aN.j1 k a b p q r s u v true) R→Ev (fun k=>aN.l0 k a b p q r s u v) R:=by
     intro R h
     refine Ev.step (fun k=>by rw [aN.l0]) ?_
     rw [w64 (x:=v+r) (by omega) (by omega),w64 (x:=v+s) (by omega) (by omega),show (v+s != 0)=true by simp [c2]]
     exact evn c1 h
    have k0:0≤(u+p) / (v+r):=Int.ediv_nonneg (by omega) (by omega)
    have k1:(u+p) / (v+r)≤u+p:=Int.ediv_le_self _ (by omega)
    have g0:0≤(u+q) / (v+s):=Int.ediv_nonneg (by omega) (by omega)
    have g1:(u+q) / (v+s)≤u+q:=Int.ediv_le_self _ (by omega)
    have d1:=Int.mul_ediv_add_emod (u+p) (v+r)
    have d2:=Int.emod_nonneg (u+p) (show v+r≠0 by omega)
    have d3:=Int.emod_lt_of_pos (u+p) (show 0<v+r by omega)
    have f1:=Int.mul_ediv_add_emod (u+q) (v+s)
    have f2:=Int.emod_nonneg (u+q) (show v+s≠0 by omega)
    have f3:=Int.emod_lt_of_pos (u+q) (show 0<v+s by omega)
    generalize hk:(u+p) / (v+r)=K at k0 k1 d1
    generalize hk2:(u+q) / (v+s)=K2 at g0 g1 f1
    generalize (u+p) % (v+r)=w1 at d1 d2 d3
    generalize (u+q) % (v+s)=w2 at f1 f2 f3
    have tests:∀ R,(K=K2→Ev (fun k=>aN.l0 k a b r s (p-K*r) (q-K*s) v (u-K*v)) R)→(K≠K2→Ev (fun k=>aN.j2 k a b p q r s) R)→Ev (fun k=>aN.j1 k a b p q r s u v true) R:=by
     intro R h1 h2
     refine Ev.step (fun k=>by rw [aN.j1]) ?_
     have m1:=nX (k:=K) (r:=r) ⟨k0,by omega⟩ (by omega)
     have m2:=nX (k:=K) (r:=s) ⟨k0,by omega⟩ (by omega)
     have m3:=nX (k:=K) (r:=v) ⟨k0,by omega⟩ (by omega)
     rw [w64 (x:=v+r) (by omega) (by omega),w64 (x:=v+s) (by omega) (by omega),w64 (x:=u+p) (by omega) (by omega),w64 (x:=u+q) (by omega) (by omega),fu (x:=u+p) (by omega),fu (x:=u+q) (by omega),hk,hk2,
      w64 (x:=K) (by omega) (by omega),w64 (x:=K2) (by omega) (by omega),w64 (x:=K*r) (by omega) (by omega),w64 (x:=K*s) (by omega) (by omega),w64 (x:=K*v) (by omega) (by omega),w64 (x:=p-K*r) (by omega) (by omega),w64 (x:=q-K*s) (by omega) (by omega),w64 (x:=u-K*v) (by omega) (by omega)]
     refine evp rfl (evn c1 (evn c2 ?_))
     by_cases c3:K=K2
     ·exact evp c3 (h1 c3)
     ·exact evn c3 (h2 c3)
    by_cases c3:K=K2
    ·subst c3
     have s1:(u-K*v)+(p-K*r)=w1:=by rw [alg_l4,Int.mul_comm K];omega
     have s2:(u-K*v)+(q-K*s)=w2:=by rw [alg_l4,Int.mul_comm K];omega
     have sg:(0≤r∧s≤0∧p-K*r≤0∧0≤q-K*s)∨(r≤0∧0≤s∧0≤p-K*r∧q-K*s≤0):=by
      rcases hs with ⟨t1,t2,t3,t4⟩ | ⟨t1,t2,t3,t4⟩
      ·have i1:=Int.mul_nonpos_of_nonneg_of_nonpos k0 t3
       have i2:=Int.mul_nonneg k0 t4
       exact .inr ⟨t3,t4,by omega,by omega⟩
      ·have i1:=Int.mul_nonneg k0 t3
       have i2:=Int.mul_nonpos_of_nonneg_of_nonpos k0 t4
       exact .inl ⟨t3,t4,by omega,by omega⟩
     have lt:(p-K*r)*n+(q-K*s)*m<r*n+s*m:=by
      have i:=zM (p:=(K+1)*r-p) (q:=(K+1)*s-q) (x:=x) (y:=y) (d:=1) hT ha' hb' (by
       rw [tq,tq]
       omega) (by
       rw [alg_l5 hu hv,tq,Int.mul_comm K]
       omega) (by
       rw [alg_l5 hu hv,tq,Int.mul_comm K]
       omega)
      rw [← hn,← hm,alg_l3,tq] at i
      rw [alg_l2]
      omega
     obtain ⟨R,r1,r2⟩:=ih (u-K*v+(p-K*r)).toNat (by rw [s1];omega) r s (p-K*r) (q-K*s) v (u-K*v) rfl hv (alg_l1 hu hv) sg (by omega) (by omega) (by omega) (by omega)
      (by rw [alg_l2,gI_sub];exact hg) (by omega) (by omega) (by omega) (fun _=>by omega) hmn
     exact ⟨R,step R (tests R (fun _=>r1) (fun h=>absurd rfl h)),r2⟩
    ·exact ⟨R0,step R0 (tests R0 (fun h=>absurd h c3) (fun _=>e1)),e2⟩
theorem zO {a b:List Int} {n m:Int} (la:a.length<1073741824) (lb:b.length<1073741824) (hb2:2<b.length) (ha:Can WW a n) (hb:Can WW b m) (hmn:m≤n):∃ R,Ev (fun k=>aN.f k a b) R∧uU n m R:=by
 have lba:=ix ha hb hmn
 have n0:=ha.gD bf
 have m0:=hb.gD bf
 have mz:=hb.ig bf
 have m1:m≠0:=fun h=>by have:=mz.2 h;omega
 obtain ⟨A,A1,A2,A3,A4⟩:=n9 (by omega) ha
 obtain ⟨B,B1,B2,B3,B4⟩:=n9 (by omega) hb
 obtain ⟨A5,A6,A7,A8⟩:=A4 (by omega)
 clear A3 A4 B3 B4
 unfold aN.f
 rw [A1,B1]
 simp only [Option.bind_some]
 rw [w64 (x:=(A:Int)-20) (by omega) (by omega),w64 (x:=(A:Int)-31) (by omega) (by omega),show (A:Int)-31=((A-31:Nat):Int) by omega]
 by_cases c:(B:Int)<(A:Int)-20
 ·exact ⟨([],[],false),evp c (evs _),fun h=>by simp at h⟩
 ·obtain ⟨x,x1,x2,x3⟩:=lN (A-31) (by omega) (by omega) ha
  obtain ⟨y,y1,y2,y3⟩:=lN (A-31) (by omega) (by omega) hb
  have hT:=two_pos (A-31)
  have e:(2:Int) ^ A=2 ^ (A-31)*2147483648:=by
   rw [show (2147483648:Int)=2 ^ 31 by decide,← Int.pow_add]
   congr 1
   omega
  rw [e] at A6
  clear e A5
  generalize (2:Int) ^ (A-31)=T at hT A6 x2 y2
  have q1:n / T<2147483648:=Int.ediv_lt_of_lt_mul hT (by rw [Int.mul_comm];exact A6)
  have q2:m / T≤n / T:=Int.ediv_le_ediv hT hmn
  have q3:0≤m / T:=Int.ediv_nonneg m0 (by omega)
  have hW2:WW ^ 2=18446744073709551616:=by decide
  have sx:=gf x2 (x2.iu (k:=2) cZ (by omega))
  have sy:=gf y2 (y2.iu (k:=2) cZ (by omega))
  have i1:=Int.emod_nonneg n (show T≠0 by omega)
  have i2:=Int.emod_lt_of_pos n hT
  have i3:=Int.emod_nonneg m (show T≠0 by omega)
  have i4:=Int.emod_lt_of_pos m hT
  have j1:=Int.mul_ediv_add_emod n T
  have j2:=Int.mul_ediv_add_emod m T
  obtain ⟨R,r1,r2⟩:=zP la lb ha hb hT j1.symm j2.symm ⟨i1,i2⟩ ⟨i3,i4⟩ _ 1 0 0 1 (n / T) (m / T) rfl (by omega) (by omega) (by omega) (by omega) (by omega) (by omega) (by omega)
   (by rw [Int.one_mul,Int.zero_mul,Int.zero_mul,Int.one_mul,Int.add_zero,Int.zero_add]) (by omega) (by omega) (by omega) (fun h=>absurd rfl h) hmn
  refine ⟨R,evn c (Ev.bind x1 (evb sx (Ev.bind y1 (evb sy ?_)))),r2⟩
  show Ev (fun k=>aN.l0 k a b 1 0 0 1 (wrap64 (n / T)) (wrap64 (m / T))) R
  rw [w64 (x:=n / T) (by omega) (by omega),w64 (x:=m / T) (by omega) (by omega)]
  exact r1
theorem xO (c:Nat):∀ x y:Int,y.toNat=c→0≤x→x<18446744073709551616→0≤y→y<18446744073709551616→∃ r,Ev (fun k=>bD.l1 k x y) r∧Can WW r (gI x y):=by
 induction c using Nat.strongRecOn with
 | _ c ih =>
  intro x y hc x0 x1 y0 y1
  by_cases c1:y=0
  ·subst c1
   obtain ⟨r,r1,r2⟩:=fz x0 x1
   rw [qM x0]
   refine ⟨r,?_,r2⟩
   refine Ev.step (fun k=>by rw [bD.l1]) ?_
   exact evp rfl (Ev.bind r1 (evs _))
  ·have m0:=Int.emod_nonneg x (show y≠0 by omega)
   have m1:=Int.emod_lt_of_pos x (show 0<y by omega)
   obtain ⟨r,r1,r2⟩:=ih (x % y).toNat (by omega) y (x % y) rfl y0 y1 m0 (by omega)
   rw [sT] at r2
   refine ⟨r,?_,r2⟩
   refine Ev.step (fun k=>by rw [bD.l1]) ?_
   rw [fO x0]
   exact evn c1 r1
theorem pB (c:Nat):∀ (a b:List Int) (n m:Int),m.toNat=c→a.length<1073741824→Can WW a n→Can WW b m→m≤n→∃ r,Ev (fun k=>bD.l0 k a b) r∧Can WW r (gI n m):=by
 induction c using Nat.strongRecOn with
 | _ c ih =>
  intro a b n m hc la ha hb hmn
  have lba:=ix ha hb hmn
  have n0:=ha.gD bf
  have m0:=hb.gD bf
  have hz:=hb.ig bf
  have hW2:WW ^ 2=18446744073709551616:=by decide
  by_cases c1:2<b.length
  ·have mp:0<m:=by
    rcases Int.lt_or_le 0 m with h | h
    ·exact h
    ·have:=hz.2 (by omega)
     omega
   obtain ⟨R,r1,r2⟩:=zO la (by omega) c1 ha hb hmn
   obtain ⟨x,y,f⟩:=R
   cases f with
   | true =>
    obtain ⟨C,D,s1,s2,s3,s4,s5,s6⟩:=r2 rfl
    have D0:=s2.gD bf
    have lc:=ix ha s1 s6
    obtain ⟨z,z1,z2⟩:=ih D.toNat (by omega) x y C D rfl (by show x.length<_;have:x.length≤a.length:=lc;omega) s1 s2 s4
    rw [s3] at z2
    refine ⟨z,?_,z2⟩
    refine Ev.step (fun k=>by rw [bD.l0]) ?_
    exact evp (by omega) (Ev.bind r1 (evp rfl z1))
   | false =>
    have q0:=Int.emod_nonneg n (show m≠0 by omega)
    have q1:=Int.emod_lt_of_pos n mp
    obtain ⟨q,r,d1,d2,d3⟩:=kZ (by omega) ha hb mp
    obtain ⟨z,z1,z2⟩:=ih (n % m).toNat (by omega) b r m (n % m) rfl (by omega) hb d3 (by omega)
    rw [sT] at z2
    refine ⟨z,?_,z2⟩
    refine Ev.step (fun k=>by rw [bD.l0]) ?_
    exact evp (by omega) (Ev.bind r1 (evn (by simp) (Ev.bind d1 z1)))
  ·by_cases c2:b.length=0
   ·rw [hz.1 c2,qM n0]
    refine ⟨a,?_,ha⟩
    refine Ev.step (fun k=>by rw [bD.l0]) ?_
    exact evn (by omega) (evp (by omega) (evp (by simp;omega) (evs _)))
   ·have mp:0<m:=by
     rcases Int.lt_or_le 0 m with h | h
     ·exact h
     ·have:=hz.2 (by omega)
      omega
    have q0:=Int.emod_nonneg n (show m≠0 by omega)
    have q1:=Int.emod_lt_of_pos n mp
    obtain ⟨q,r,d1,d2,d3⟩:=kZ (by omega) ha hb mp
    have hlt:=hb.lt bf
    have h4:=fW (B:=WW) (by decide) (show b.length≤2 by omega)
    have l3:=d3.iu (k:=2) cZ (by omega)
    have e1:=gf hb (by omega)
    have e2:=gf d3 l3
    obtain ⟨z,z1,z2⟩:=xO _ m (n % m) rfl m0 (by omega) q0 (by omega)
    rw [sT] at z2
    refine ⟨z,?_,z2⟩
    refine Ev.step (fun k=>by rw [bD.l0]) ?_
    exact evn (by omega) (evn (by omega) (Ev.bind d1 (evb e1 (evb e2 z1))))
theorem xT {a b:List Int} {n m:Int} (la:a.length<1073741824) (lb:b.length<1073741824) (ha:Can WW a n) (hb:Can WW b m):∃ r,Ev (fun k=>bD.f k a b) r∧Can WW r (gI n m):=by
 have hc:=pE (by omega) ha hb
 unfold bD.f
 by_cases c:n<m
 ·obtain ⟨r,r1,r2⟩:=pB _ b a m n rfl lb hb ha (by omega)
  rw [gI_comm] at r2
  refine ⟨r,Ev.bind hc (evp ?_ ?_),r2⟩
  ·unfold iz;rw [if_pos c];omega
  ·exact Ev.step (fun k=>by rw [bD.j0]) r1
 ·obtain ⟨r,r1,r2⟩:=pB _ a b n m rfl la ha hb (by omega)
  refine ⟨r,Ev.bind hc (evn ?_ ?_),r2⟩
  ·unfold iz;rw [if_neg c];split<;>omega
  ·exact Ev.step (fun k=>by rw [bD.j0]) r1
end Go.Proofs.YtfbgaddecbiimaaGreatDoor.P
end
section
namespace Go.Proofs.YtfbgaddecbiimaaGreatDoor.P
open Go.RowKit Go.Proofs.YtfbgaddecbiimaaGreatDoorW.PrintWords Go.Proofs.YtfbgaddecbiimaaGreatDoorW.PrintLast Go.Proofs.YtfbgaddecbiimaaGreatDoorW.PrintMore
set_option linter.unusedVariables false
def sv (s:ByteArray):Nat→Int
 | 0=>0
 | i+1=>sv s i*10+(bt s (i:Int)-48)
end Go.Proofs.YtfbgaddecbiimaaGreatDoor.P
end
section
namespace Go.Proofs.YtfbgaddecbiimaaGreatDoor.Q
open Go.RowKit Go.Proofs.YtfbgaddecbiimaaGreatDoorW.PrintWords Go.Proofs.YtfbgaddecbiimaaGreatDoorW.PrintMore Go.Proofs.YtfbgaddecbiimaaGreatDoor.V Go.Proofs.YtfbgaddecbiimaaGreatDoor.E
open Go.Proofs.YtfbgaddecbiimaaGreatDoor.P (Dg Nm vl WW RR dC gI evs evk evb iz bf cZ)
set_option linter.unusedVariables false
theorem bT {α:Type} {c:Bool} {f g:Nat→Option α} {r:α} (hc:c=true) (h:Ev f r):Ev (fun k=>bif c then f k else g k) r:=by subst hc;exact h
theorem bF {α:Type} {c:Bool} {f g:Nat→Option α} {r:α} (hc:c=false) (h:Ev g r):Ev (fun k=>bif c then f k else g k) r:=by subst hc;exact h
theorem iT {α:Type} {c:Prop} [Decidable c] {f:Nat→Option α} {r:α} (hc:c) (h:Ev f r):Ev (fun k=>if c then f k else none) r:=by simpa only [if_pos hc] using h
def sg (s:Bool) (x:Int):Int:=if s then -x else x
def RB (B:Int) (v:gX) (q:Rat):Prop:=v.1=decide (q.num<0)∧P.Can B v.2.1 (q.num.natAbs:Int)∧P.Can B v.2.2.1 (q.den:Int)
theorem can1 {B:Int} (h:1<B):P.Can B [1] 1:=⟨Dg.mk (by decide) h (Dg.nil _),fun h=>by simp,by simp [vl]⟩
theorem Ab (x y:Int):((y.gcd x:Nat):Int)=gI x y:=by unfold gI;rw [Int.gcd_comm]
theorem rb_frac {B:Int} {s:Bool} {l d:List Int} {x y:Int} (hx:0<x) (hy:0<y) (hl:P.Can B l (x / gI x y)) (hd:P.Can B d (y / gI x y)):RB B (s,l,d,()) (Rat.divInt (sg s x) y):=by
 have hg:0<gI x y:=by
  unfold gI
  have:=Int.gcd_pos_of_ne_zero_left y (show x≠0 by omega)
  omega
 have hgx:gI x y ∣ x:=Int.gcd_dvd_left ..
 have hgy:gI x y ∣ y:=Int.gcd_dvd_right ..
 have hq:0<x / gI x y:=Int.ediv_pos_of_pos_of_dvd hx (by omega) hgx
 have hr:0<y / gI x y:=Int.ediv_pos_of_pos_of_dvd hy (by omega) hgy
 have hsg:((y.gcd (sg s x):Nat):Int)=gI x y:=by
  unfold sg
  cases s with
  | true=>simp only [if_true,Int.gcd_neg];exact Ab x y
  | false=>exact Ab x y
 have hnum:(Rat.divInt (sg s x) y).num=sg s (x / gI x y):=by
  rw [Rat.num_divInt,hsg,Int.sign_eq_one_of_pos hy,Int.one_mul]
  unfold sg
  cases s with
  | true=>simp only [if_true];exact Int.neg_ediv_of_dvd hgx
  | false=>rfl
 have hden:((Rat.divInt (sg s x) y).den:Int)=y / gI x y:=by
  rw [Rat.den_divInt,if_neg (by omega),Int.natCast_ediv,hsg]
  congr 1
  omega
 refine ⟨?_,?_,?_⟩
 ·show s=_
  rw [hnum]
  unfold sg
  cases s with
  | true=>simp only [if_true];exact (decide_eq_true (by omega)).symm
  | false=>exact (decide_eq_false (by simp;omega)).symm
 ·show P.Can B l _
  rw [hnum]
  have:((sg s (x / gI x y)).natAbs:Int)=x / gI x y:=by
   unfold sg
   cases s with
   | true=>simp only [if_true];omega
   | false=>simp;omega
  rw [this]
  exact hl
 ·show P.Can B d _
  rw [hden]
  exact hd
theorem den_pos' (q:Rat):(0:Int)<q.den:=by have:=q.den_pos;omega
def Sz (B:Int) (K:Nat) (q:Rat):Prop:=(q.num.natAbs:Int)<B ^ K∧(q.den:Int)<B ^ K
theorem sz_of {B:Int} (hB:0<B) {v:gX} {q:Rat} (h:RB B v q) {K:Nat} (h1:v.2.1.length≤K) (h2:v.2.2.1.length≤K):Sz B K q :=
 ⟨Int.lt_of_lt_of_le (h.2.1.lt hB) (P.fW (by omega) h1),Int.lt_of_lt_of_le (h.2.2.lt hB) (P.fW (by omega) h2)⟩
theorem vg {B:Int} (hB:1<B) {v:gX} {q:Rat} (h:RB B v q) {K:Nat} (hs:Sz B K q):v.2.1.length≤K∧v.2.2.1.length≤K:=⟨h.2.1.iu hB hs.1,h.2.2.iu hB hs.2⟩
theorem sz_mono {B:Int} (hB:0<B) {q:Rat} {K L:Nat} (hs:Sz B K q) (h:K≤L):Sz B L q:=⟨Int.lt_of_lt_of_le hs.1 (P.fW (by omega) h),Int.lt_of_lt_of_le hs.2 (P.fW (by omega) h)⟩
end Go.Proofs.YtfbgaddecbiimaaGreatDoor.Q
end
section
namespace Go.Proofs.YtfbgaddecbiimaaGreatDoor.Q
open Go.RowKit Go.Proofs.YtfbgaddecbiimaaGreatDoorW.PrintWords Go.Proofs.YtfbgaddecbiimaaGreatDoorW.PrintMore Go.Proofs.YtfbgaddecbiimaaGreatDoor.V Go.Proofs.YtfbgaddecbiimaaGreatDoor.E
open Go.Proofs.YtfbgaddecbiimaaGreatDoor.P (Dg Nm vl WW RR dC gI evs evk evb iz bf cZ w64 u64)
set_option linter.unusedVariables false
section
variable {a b:List Int} {n m:Int}
theorem q_GCD (la:a.length<1073741824) (lb:b.length<1073741824) (ha:P.Can WW a n) (hb:P.Can WW b m):∃ r,Ev (fun k=>bD k a b) r∧P.Can WW r (gI n m):=by
 obtain ⟨r,h1,h2⟩:=P.xT la lb ha hb
 exact ⟨r,Ev.step (fun k=>xU k a b) h1,h2⟩
theorem zN {B:Int} (hB:0<B) {l:List Int} {x:Int} (h:P.Can B l x) (hx:x≠0):((List.length l:Int)==(0:Int))=false:=by
 have:=h.ig hB
 have:l.length≠0:=fun e=>hx (this.1 e)
 simp
 intro e
 exact this (by simp [e])
end
end Go.Proofs.YtfbgaddecbiimaaGreatDoor.Q
end
section
namespace Go.Proofs.YtfbgaddecbiimaaGreatDoor.Q
open Go.RowKit Go.Proofs.YtfbgaddecbiimaaGreatDoorW.PrintWords Go.Proofs.YtfbgaddecbiimaaGreatDoorW.PrintMore Go.Proofs.YtfbgaddecbiimaaGreatDoor.V Go.Proofs.YtfbgaddecbiimaaGreatDoor.E
open Go.Proofs.YtfbgaddecbiimaaGreatDoor.P (Dg Nm vl WW RR dC gI evs evk evb iz bf cZ cQ w64 u64)
set_option linter.unusedVariables false
def Ev2 {α:Type} (g:Nat→Nat→Option α) (r:α):Prop:=∃ K,∀ k m,K≤k→K≤m→g k m=some r
section
variable {α β:Type} {g f:Nat→Nat→Option α} {r:α}
theorem Ev2.diag (h:Ev2 g r):Ev (fun k=>g k k) r:=by
 obtain ⟨K,h⟩:=h
 exact ⟨K,fun k hk=>h k k hk hk⟩
theorem Ev2.step (h:∀ k m,g k (m+1)=f k m) (k:Ev2 f r):Ev2 g r:=by
 obtain ⟨K,k⟩:=k
 refine ⟨K+1,fun n m hn hm=>?_⟩
 obtain ⟨q,rfl⟩:∃ q,m=q+1:=⟨m-1,by omega⟩
 rw [h]
 exact k n q (by omega) (by omega)
theorem Ev2.bind {g:Nat→Option β} {f:Nat→Nat→β→Option α} {a:β} (h:Ev g a) (k:Ev2 (fun n m=>f n m a) r):Ev2 (fun n m=>(g n).bind (f n m)) r:=by
 obtain ⟨K,h⟩:=h
 obtain ⟨K',k⟩:=k
 refine ⟨max K K',fun n m hn hm=>?_⟩
 have h1:=h n (by omega)
 simp only [h1,Option.bind_some]
 exact k n m (by omega) (by omega)
theorem Ev2.bT {c:Bool} (hc:c=true) (h:Ev2 f r):Ev2 (fun k m=>bif c then f k m else g k m) r:=by subst hc;exact h
theorem Ev2.bF {c:Bool} (hc:c=false) (h:Ev2 g r):Ev2 (fun k m=>bif c then f k m else g k m) r:=by subst hc;exact h
theorem Ev2.iT {c:Prop} [Decidable c] (hc:c) (h:Ev2 f r):Ev2 (fun k m=>if c then f k m else none) r:=by simpa only [if_pos hc] using h
theorem Ev2.of {g:Nat→Option α} (h:Ev g r):Ev2 (fun k _=>g k) r:=by
 obtain ⟨K,h⟩:=h
 exact ⟨K,fun k m hk _=>h k hk⟩
end
theorem oJ:(1:Int)<RR:=by decide
section
variable {a b:List Int} {n m:Int}
theorem s_Cmp (hn:a.length<4611686018427387904) (ha:P.Can RR a n) (hb:P.Can RR b m):Ev (fun k=>aq k a b) (iz n m):=Ev.step (fun k=>ju k a b) (P.cI hn ha hb)
theorem s_GCD (la:a.length<1073741824) (lb:b.length<1073741824) (ha:P.Can RR a n) (hb:P.Can RR b m):∃ r,Ev (fun k=>an k a b) r∧P.Can RR r (gI n m):=by
 obtain ⟨r,h1,h2⟩:=P.r_GCD_sp la lb ha hb
 exact ⟨r,Ev.step (fun k=>jr k a b) h1,h2⟩
theorem yX {k0 c0:Int} (hn:a.length<549755813888) (ha:P.Can RR a n) (hk:0≤k0∧k0≤65536) (hc:0≤c0∧c0≤65536):∃ r,Ev (fun k=>ah k a k0 c0) r∧P.Can RR r (n*k0+c0)∧r.length≤a.length+2:=by
 obtain ⟨r,h1,h2⟩:=P.gj hn ha hk hc
 exact ⟨r,Ev.step (fun k=>iM k a k0 c0) h1,h2⟩
theorem rdT_rd (l:List Int) (i:Int):(rdT (t:=(.int .u32)) l i:Int)=rd l i:=rfl
theorem s_Of_ev {a:List Int} (hn:a.length<137438953472) (ha:Dg WW a) (d:Nat):∀ (i:Nat) (o:List Int),i=d→i≤a.length→P.Can RR o (vl WW (a.drop i))→o.length≤4*(a.length-i)→∃ r,Ev2 (fun k m=>bN.l0 k m a o ((i:Int)-1)) r∧P.Can RR r (vl WW a)∧r.length≤4*a.length:=by
 induction d with
 | zero =>
  rintro i o rfl h1 h2 h3
  exact ⟨o,Ev2.step (fun k m=>bN.dj k m _ _ _) (Ev2.bF (decide_eq_false (by omega)) (Ev2.of (evs _))),by simpa using h2,by omega⟩
 | succ d ih =>
  rintro i o rfl h1 h2 h3
  have e1:(((d+1:Nat):Int)-1)=(d:Int):=by omega
  have hx:=P.dH ha (d:Int) (by omega) (by omega)
  rw [P.cL] at hx
  obtain ⟨p,h4,h5,h6⟩:=yX (k0:=65536) (c0:=rd a d / 65536) (by omega) h2 (by omega) (by omega)
  obtain ⟨q,h7,h8,h9⟩:=yX (k0:=65536) (c0:=rd a d % 65536) (by omega) h5 (by omega) (by omega)
  have ea:a.drop d=rd a d :: a.drop (d+1):=by rw [P.lD a d (by omega)];exact (List.drop_eq_getElem_cons (by omega))
  have ev:(vl WW (a.drop (d+1))*65536+rd a d / 65536)*65536+rd a d % 65536=vl WW (a.drop d):=by
   rw [ea,vl,P.cL]
   omega
  rw [ev] at h8
  obtain ⟨r,h10,h11⟩:=ih d q rfl (by omega) h8 (by omega)
  refine ⟨r,Ev2.step (fun k m=>bN.dj k m _ _ _) ?_,h11⟩
  have e2:shr .u32 (rd a (d:Int)) 16=rd a d / 65536:=rfl
  rw [e1]
  simp only [rdT_rd]
  rw [e2,P.and16 hx.1 hx.2,w64 (x:=rd a d / 65536) (by omega) (by omega),w64 (x:=rd a d % 65536) (by omega) (by omega),w64 (x:=(d:Int)-1) (by omega) (by omega)]
  exact Ev2.bT (decide_eq_true (by omega)) (Ev2.iT (by omega) (Ev2.bind h4 (Ev2.iT (by omega) (Ev2.bind h7 h10))))
theorem s_Of {a:List Int} {n:Int} (hn:a.length<137438953472) (ha:P.Can WW a n):∃ r,Ev (fun k=>bN k a) r∧P.Can RR r n∧r.length≤4*a.length:=by
 obtain ⟨r,h1,h2⟩:=s_Of_ev hn ha.1 a.length a.length [] rfl (Nat.le_refl _) (by rw [List.drop_length];exact P.Can.zero _) (by simp)
 rw [ha.2.2] at h2
 refine ⟨r,Ev.step (fun k=>jW k a) ?_,h2⟩
 rw [w64 (x:=(a.length:Int)-1) (by omega) (by omega)]
 exact h1.diag
end
end Go.Proofs.YtfbgaddecbiimaaGreatDoor.Q
end
section
namespace Go.Proofs.YtfbgaddecbiimaaGreatDoor.Q
open Go.RowKit Go.Proofs.YtfbgaddecbiimaaGreatDoorW.PrintWords Go.Proofs.YtfbgaddecbiimaaGreatDoorW.PrintMore Go.Proofs.YtfbgaddecbiimaaGreatDoor.V Go.Proofs.YtfbgaddecbiimaaGreatDoor.E
open Go.Proofs.YtfbgaddecbiimaaGreatDoor.P (Dg Nm vl WW RR dC gI evs evk evb iz bf cZ cQ w64 u64)
set_option linter.unusedVariables false
section
variable {a b:List Int} {n m:Int} {v w:gX} {p q:Rat} {K L:Nat}
theorem uC {l:List Int} {z:Int} (h:P.Can WW l z):(bif (List.length l:Int)==(1:Int) then if 0≤(0:Int)∧(0:Int)<(List.length l:Int) then some ((rdT (t:=(.int .u32)) l (0:Int):Int)==(1:Int)) else none else some false)=some (decide (z=1)):=by
 match l,h with
 | [],h =>
  have:z=0:=by have:=h.2.2;simp [vl] at this;exact this.symm
  subst this
  rfl
 | [x],h =>
  have hx:x=z:=by have:=h.2.2;simp [vl] at this;exact this
  have hr:(rdT (t:=(.int .u32)) [x] (0:Int):Int)=x:=rfl
  rw [hr,hx]
  simp
  by_cases c:z=1<;>simp [c]
 | x :: y :: t,h =>
  have h1:((List.length (x :: y :: t):Int)==(1:Int))=false:=by simp;omega
  have h2:WW≤z:=by
   have:=h.ge bf (by simp)
   refine Int.le_trans ?_ this
   have:=P.fW (B:=WW) (by decide) (i:=1) (j:=(x :: y :: t).length-1) (by simp)
   rw [Int.pow_succ,Int.pow_zero,Int.one_mul] at this
   exact this
  have:WW=4294967296:=rfl
  rw [h1,decide_eq_false (by omega)]
  rfl
end
end Go.Proofs.YtfbgaddecbiimaaGreatDoor.Q
end
section
namespace Go.Proofs.YtfbgaddecbiimaaGreatDoor.Q
open Go.RowKit Go.Proofs.YtfbgaddecbiimaaGreatDoorW.PrintWords Go.Proofs.YtfbgaddecbiimaaGreatDoorW.PrintMore Go.Proofs.YtfbgaddecbiimaaGreatDoor.V Go.Proofs.YtfbgaddecbiimaaGreatDoor.E
open Go.Proofs.YtfbgaddecbiimaaGreatDoor.P (Dg Nm vl WW RR dC gI evs evk evb iz bf cZ cQ w64 u64)
set_option linter.unusedVariables false
def Arg (v:gX):Prop:=Dg WW v.2.1∧Dg WW v.2.2.1∧True∧True
def Vd (v:gX):Prop:=∃ q,RB WW v q∧Sz WW 4096 q
section
variable {v w:gX} {p q:Rat} {K L:Nat}
theorem uG (q:Rat):gI (q.num.natAbs:Int) q.den=1:=by
 unfold P.gI
 have:=q.reduced
 unfold Nat.Coprime at this
 simp only [Int.gcd,Int.natAbs_natCast,this]
 rfl
theorem yE {s:Bool} {a b:List Int} (da:Dg WW a) (db:Dg WW b):(∃ q,RB WW (s,a,b,()) q)↔Nm a∧Nm b∧vl WW b≠0∧(vl WW a=0→s=false∧vl WW b=1)∧(vl WW a≠0→gI (vl WW a) (vl WW b)=1):=by
 constructor
 ·rintro ⟨q,h1,h2,h3⟩
  have e2:vl WW a=(q.num.natAbs:Int):=h2.2.2
  have e3:vl WW b=(q.den:Int):=h3.2.2
  have dp:=den_pos' q
  refine ⟨h2.2.1,h3.2.1,by omega,fun h=>?_,fun h=>?_⟩
  ·have h0:q=0:=Rat.num_eq_zero.1 (by omega)
   refine ⟨?_,?_⟩
   ·have:s=decide (q.num<0):=h1
    rw [this,h0];rfl
   ·rw [e3,h0];rfl
  ·rw [e2,e3]
   exact uG q
 ·rintro ⟨na,nb,hb,h0,h1⟩
  have a0:=P.bV bf da
  have b0:=P.bV bf db
  by_cases c:vl WW a=0
  ·obtain ⟨rfl,e⟩:=h0 c
   refine ⟨0,rfl,?_,?_⟩
   ·exact ⟨da,na,c⟩
   ·exact ⟨db,nb,e⟩
  ·have g:=h1 c
   refine ⟨Rat.divInt (sg s (vl WW a)) (vl WW b),rb_frac (by omega) (by omega) ?_ ?_⟩
   ·rw [g,Int.ediv_one];exact ⟨da,na,rfl⟩
   ·rw [g,Int.ediv_one];exact ⟨db,nb,rfl⟩
theorem vd_iff (ha:Arg v):Vd v↔v.2.1.length≤4096∧v.2.2.1.length≤4096∧Nm v.2.1∧Nm v.2.2.1∧vl WW v.2.2.1≠0∧(vl WW v.2.1=0→v.1=false∧vl WW v.2.2.1=1)∧(vl WW v.2.1≠0→gI (vl WW v.2.1) (vl WW v.2.2.1)=1):=by
 obtain ⟨s,a,b,_⟩:=v
 have h:=yE (s:=s) ha.1 ha.2.1
 constructor
 ·rintro ⟨q,h1,h2⟩
  obtain ⟨l1,l2⟩:=vg cZ h1 h2
  exact ⟨l1,l2,h.1 ⟨q,h1⟩⟩
 ·rintro ⟨l1,l2,h3⟩
  obtain ⟨q,hq⟩:=h.2 h3
  exact ⟨q,hq,sz_of bf hq l1 l2⟩
theorem vl0_iff {l:List Int} (hd:Dg WW l) (hn:Nm l):l.length=0↔vl WW l=0:=(show P.Can WW l (vl WW l) from ⟨hd,hn,rfl⟩).ig bf
theorem qU {l:List Int} (hd:Dg WW l) (hn:Nm l):((List.length l:Int)==(0:Int))=decide (vl WW l=0):=by
 by_cases c:vl WW l=0
 ·have:=(vl0_iff hd hn).2 c
  rw [decide_eq_true c];simp [List.eq_nil_of_length_eq_zero this]
 ·rw [decide_eq_false c];exact zN bf ⟨hd,hn,rfl⟩ c
end
end Go.Proofs.YtfbgaddecbiimaaGreatDoor.Q
end
section
namespace Go.Proofs.YtfbgaddecbiimaaGreatDoor.Q
open Go.RowKit Go.Proofs.YtfbgaddecbiimaaGreatDoorW.PrintWords Go.Proofs.YtfbgaddecbiimaaGreatDoorW.PrintMore Go.Proofs.YtfbgaddecbiimaaGreatDoor.V Go.Proofs.YtfbgaddecbiimaaGreatDoor.E
open Go.Proofs.YtfbgaddecbiimaaGreatDoor.P (Dg Nm vl WW RR dC gI evs evk evb iz bf cZ cQ w64 u64)
set_option linter.unusedVariables false
section
variable {v w:gX} {p q:Rat} {K L:Nat}
theorem cmpi_beq (x y:Int):(iz x y==(0:Int))=decide (x=y):=by
 unfold P.iz
 by_cases a:x<y
 ·rw [if_pos a,decide_eq_false (by omega)];rfl
 ·by_cases b:x=y
  ·rw [if_neg a,if_pos b,decide_eq_true b];rfl
  ·rw [if_neg a,if_neg b,decide_eq_false b];rfl
theorem rX (v:gX) (N:Nat):Ev (fun k=>bY k v (N:Int)) (decide (v.2.1.length≤N∧v.2.2.1.length≤N)):=by
 refine Ev.step (fun k=>iK k v _) (Ev.bind ?_ (evs _))
 by_cases c:v.2.1.length≤N
 ·refine bT (decide_eq_true (by omega)) ?_
  have:decide ((List.length v.2.2.1:Int)≤N)=decide (v.2.1.length≤N∧v.2.2.1.length≤N):=decide_eq_decide.2 (by omega)
  rw [this]
  exact evs _
 ·have:decide (v.2.1.length≤N∧v.2.2.1.length≤N)=false:=decide_eq_false (fun h=>c h.1)
  rw [this]
  exact bF (decide_eq_false (by omega)) (evs _)
end
end Go.Proofs.YtfbgaddecbiimaaGreatDoor.Q
end
section
namespace Go.Proofs.YtfbgaddecbiimaaGreatDoor.Q
open Go.RowKit Go.Proofs.YtfbgaddecbiimaaGreatDoorW.PrintWords Go.Proofs.YtfbgaddecbiimaaGreatDoorW.PrintMore Go.Proofs.YtfbgaddecbiimaaGreatDoor.V Go.Proofs.YtfbgaddecbiimaaGreatDoor.E
open Go.Proofs.YtfbgaddecbiimaaGreatDoor.P (Dg WW dg_wf)
set_option linter.unusedVariables false
theorem vf:cH T=true:=by kernel_rfl
theorem mixed:T.P.follows .mixedOrders=true:=by kernel_rfl
theorem noGo0:(Tryz.prog.funcs.toList.all fun f=>f.name != "runtime.NumGoroutine")=true:=by kernel_rfl
theorem noGo (f:Nat) (fn:Func) (h:T.P.funcs[f]?=some fn):fn.name≠"runtime.NumGoroutine":=by
 have h1:=List.all_eq_true.1 noGo0 fn (by
  rw [Array.mem_toList_iff]
  exact Array.mem_of_getElem? h)
 simpa using h1
theorem arg_rat {y:gX} (h:Fine aA y):Arg y:=by
 obtain ⟨_,h1,h2,_⟩:=h
 exact ⟨dg_wf h1.2,dg_wf h2.2,trivial,trivial⟩
end Go.Proofs.YtfbgaddecbiimaaGreatDoor.Q
end
section
namespace Go.Proofs.YtfbgaddecbiimaaGreatDoor.Q
open Go.RowKit Go.Proofs.YtfbgaddecbiimaaGreatDoorW.PrintWords Go.Proofs.YtfbgaddecbiimaaGreatDoorW.PrintMore Go.Proofs.YtfbgaddecbiimaaGreatDoor.V Go.Proofs.YtfbgaddecbiimaaGreatDoor.E
open Go.Proofs.YtfbgaddecbiimaaGreatDoor.P (Dg Nm vl WW RR dC gI evs evk evb iz bf cZ cQ w64 u64)
set_option linter.unusedVariables false
section
variable {v w:gX} {p q:Rat} {K L:Nat}
def down (n:Nat) (p:Rat):Rat:=((p*((2 ^ n:Int):Rat)).floor:Rat) / ((2 ^ n:Int):Rat)
end
end Go.Proofs.YtfbgaddecbiimaaGreatDoor.Q
end
section
namespace Go.Proofs.YtfbgaddecbiimaaGreatDoor.Q
open Go.RowKit Go.Proofs.YtfbgaddecbiimaaGreatDoorW.PrintWords Go.Proofs.YtfbgaddecbiimaaGreatDoorW.PrintMore Go.Proofs.YtfbgaddecbiimaaGreatDoor.V Go.Proofs.YtfbgaddecbiimaaGreatDoor.E
open Go.Proofs.YtfbgaddecbiimaaGreatDoor.P (Dg Nm vl WW RR dC gI evs evk evb iz bf cZ cQ w64 u64)
set_option linter.unusedVariables false
def Ev3 {α:Type} (g:Nat→Nat→Nat→Option α) (r:α):Prop:=∃ K,∀ k m n,K≤k→K≤m→K≤n→g k m n=some r
section
variable {α β:Type} {g f:Nat→Nat→Nat→Option α} {r:α}
theorem Ev3.diag (h:Ev3 g r):Ev2 (fun k n=>g k k n) r:=by
 obtain ⟨K,h⟩:=h
 exact ⟨K,fun k n hk hn=>h k k n hk hk hn⟩
theorem Ev3.step (h:∀ k m n,g k (m+1) n=f k m n) (k:Ev3 f r):Ev3 g r:=by
 obtain ⟨K,k⟩:=k
 refine ⟨K+1,fun n m q hn hm hq=>?_⟩
 obtain ⟨p,rfl⟩:∃ p,m=p+1:=⟨m-1,by omega⟩
 rw [h]
 exact k n p q (by omega) (by omega) (by omega)
theorem Ev3.bind {g:Nat→Option β} {f:Nat→Nat→Nat→β→Option α} {a:β} (h:Ev g a) (k:Ev3 (fun n m q=>f n m q a) r):Ev3 (fun n m q=>(g n).bind (f n m q)) r:=by
 obtain ⟨K,h⟩:=h
 obtain ⟨K',k⟩:=k
 refine ⟨max K K',fun n m q hn hm hq=>?_⟩
 have h1:=h n (by omega)
 simp only [h1,Option.bind_some]
 exact k n m q (by omega) (by omega) (by omega)
theorem Ev3.bT {c:Bool} (hc:c=true) (h:Ev3 f r):Ev3 (fun k m n=>bif c then f k m n else g k m n) r:=by subst hc;exact h
theorem Ev3.bF {c:Bool} (hc:c=false) (h:Ev3 g r):Ev3 (fun k m n=>bif c then f k m n else g k m n) r:=by subst hc;exact h
theorem Ev3.iT {c:Prop} [Decidable c] (hc:c) (h:Ev3 f r):Ev3 (fun k m n=>if c then f k m n else none) r:=by simpa only [if_pos hc] using h
theorem Ev3.of {g:Nat→Nat→Option α} (h:Ev2 g r):Ev3 (fun k _ n=>g k n) r:=by
 obtain ⟨K,h⟩:=h
 exact ⟨K,fun k m n hk _ hn=>h k n hk hn⟩
end
def VN (N:Nat) (v:gX):Prop:=∃ q,RB WW v q∧Sz WW N q
section
variable {v w:gX} {p q:Rat} {K L:Nat}
theorem r_valid (l:List Int):∃ b,P.bH.f l=some b∧(b=true↔l.length≤4096∧Nm l):=by
 unfold P.bH.f
 by_cases h1:l.length≤4096
 ·by_cases h0:l.length=0
  ·refine ⟨true,by rw [if_pos (by omega),if_pos (by omega)],?_⟩
   have:l=[]:=List.eq_nil_of_length_eq_zero h0
   subst this
   simp
   exact P.Nm.nil
  ·have e:wrap64 ((l.length:Int)-1)=(l.length:Int)-1:=w64 (by omega) (by omega)
   rw [e,if_pos (by omega),if_neg (by omega),if_pos (by omega),if_pos (by omega)]
   refine ⟨_,rfl,?_⟩
   simp only [bne_iff_ne]
   constructor
   ·intro h
    exact ⟨h1,P.mX (fun _=>h)⟩
   ·intro h
    exact h.2.rd (by omega)
 ·refine ⟨false,by rw [if_neg (by omega)],?_⟩
  simp
  omega
theorem yW (l:List Int) (hl:True):∃ t,Ev (fun k=>bH k l) t∧(t=true↔l.length≤4096∧Nm l):=by
 obtain ⟨t,h1,h3⟩:=r_valid l
 exact ⟨t,Ev.step (fun k=>iL k l) (evk h1),h3⟩
theorem rU (ha:Arg v):∃ t,Ev (fun k=>dB k v) t∧(t=true↔Vd v):=by
 have hiff:=vd_iff ha
 obtain ⟨da,db,la,lb⟩:=ha
 obtain ⟨s,a,b,_⟩:=v
 obtain ⟨t1,e1,i1⟩:=yW a la
 obtain ⟨t2,e2,i2⟩:=yW b lb
 by_cases c1:a.length≤4096∧Nm a
 ·by_cases c2:b.length≤4096∧Nm b
  ·obtain rfl:=i1.2 c1
   obtain rfl:=i2.2 c2
   have hb0:=qU db c2.2
   have ca:P.Can WW a (vl WW a):=⟨da,c1.2,rfl⟩
   have cb:P.Can WW b (vl WW b):=⟨db,c2.2,rfl⟩
   have h1:=uC cb
   by_cases c3:vl WW b=0
   ·refine ⟨false,Ev.step (fun k=>cT k _) (Ev.bind e1 (Ev.bind (a:=false) (bF rfl (Ev.bind e2 (evs _))) (Ev.bind (a:=true) (bF rfl ?_) (bT rfl (evs _))))),?_⟩
    ·rw [hb0,decide_eq_true c3];exact evs _
    ·rw [hiff];simp [c3]
   ·refine (?_:∃ t,Ev (fun k=>bif (List.length a:Int)==(0:Int) then _ else _) t∧_).elim fun t h=>⟨t,Ev.step (fun k=>cT k _) (Ev.bind e1 (Ev.bind (a:=false) (bF rfl (Ev.bind e2 (evs _))) (Ev.bind (a:=false) (bF rfl ?_) (bF rfl h.1)))),h.2⟩
    ·by_cases c4:vl WW a=0
     ·have ha0:((List.length a:Int)==(0:Int))=true:=by rw [qU da c1.2];exact decide_eq_true c4
      cases s with
      | true =>
       refine ⟨false,bT ha0 (Ev.bind (a:=false) (bF rfl (evs _)) (Ev.bind (bF rfl (evs _)) (evs _))),?_⟩
       rw [hiff];simp [c4]
      | false =>
       refine ⟨decide (vl WW b=1),bT ha0 ?_,?_⟩
       ·by_cases c5:((List.length b:Int)==(1:Int))=true
        ·rw [c5] at h1
         refine Ev.bind (a:=true) (bT rfl (by rw [show (List.length (false,a,b,()).2.2.1:Int)=(List.length b:Int) from rfl,c5];exact evs _)) (Ev.bind (bT rfl ?_) (evs _))
         have h1':(if 0≤(0:Int)∧(0:Int)<(List.length b:Int) then some ((rdT (t:=(.int .u32)) b (0:Int):Int)==(1:Int)) else none)=some (decide (vl WW b=1)):=h1
         exact evk h1'
        ·have c6:=Bool.eq_false_iff.2 c5
         rw [c6] at h1
         have h1':some false=some (decide (vl WW b=1)):=h1
         rw [← Option.some.inj h1']
         exact Ev.bind (a:=false) (bT rfl (by rw [show (List.length (false,a,b,()).2.2.1:Int)=(List.length b:Int) from rfl,c6];exact evs _)) (Ev.bind (bF rfl (evs _)) (evs _))
       ·rw [hiff,decide_eq_true_eq]
        simp [c4,c1,c2,c3]
     ·have ha0:((List.length a:Int)==(0:Int))=false:=zN bf ca c4
      obtain ⟨x,x1,x2,x3⟩:=s_Of (by omega) ca
      obtain ⟨y,y1,y2,y3⟩:=s_Of (by omega) cb
      obtain ⟨g,g1,g2⟩:=s_GCD (by omega) (by omega) x2 y2
      have b0:0<vl WW b:=by
       have h0:(0:Int)≤vl WW b:=P.bV bf db
       omega
      have gl:g.length<4611686018427387904:=by
       have:=g2.iu oJ (Int.lt_of_le_of_lt (P.gI_le b0) (y2.lt cQ))
       omega
      have h2:=s_Cmp gl g2 (can1 oJ)
      refine ⟨decide (gI (vl WW a) (vl WW b)=1),bF ha0 (Ev.bind x1 (Ev.bind y1 (Ev.bind g1 (Ev.bind h2 ?_)))),?_⟩
      ·rw [cmpi_beq];exact evs _
      ·rw [hiff,decide_eq_true_eq]
       simp [c4,c1,c2,c3]
    ·rw [hb0,decide_eq_false c3];exact evs _
  ·obtain rfl:=i1.2 c1
   have:t2=false:=Bool.eq_false_iff.2 (fun e=>c2 (i2.1 e))
   subst this
   refine ⟨false,Ev.step (fun k=>cT k _) (Ev.bind e1 (Ev.bind (a:=true) (bF rfl (Ev.bind e2 (evs _))) (Ev.bind (a:=true) (bT rfl (evs _)) (bT rfl (evs _))))),?_⟩
   rw [hiff]
   simp
   intro h1 h2 h3 h4
   exact absurd ⟨h2,h4⟩ c2
 ·have:t1=false:=Bool.eq_false_iff.2 (fun e=>c1 (i1.1 e))
  subst this
  refine ⟨false,Ev.step (fun k=>cT k _) (Ev.bind e1 (Ev.bind (a:=true) (bT rfl (evs _)) (Ev.bind (a:=true) (bT rfl (evs _)) (bT rfl (evs _))))),?_⟩
  rw [hiff]
  simp
  intro h1 h2 h3 h4
  exact absurd ⟨h1,h3⟩ c1
theorem vn_iff (N:Nat) (ha:Arg v):VN N v↔v.2.1.length≤N∧v.2.2.1.length≤N∧Nm v.2.1∧Nm v.2.2.1∧vl WW v.2.2.1≠0∧(vl WW v.2.1=0→v.1=false∧vl WW v.2.2.1=1)∧(vl WW v.2.1≠0→gI (vl WW v.2.1) (vl WW v.2.2.1)=1):=by
 obtain ⟨s,a,b,_⟩:=v
 have h:=yE (s:=s) ha.1 ha.2.1
 constructor
 ·rintro ⟨q,h1,h2⟩
  obtain ⟨l1,l2⟩:=vg cZ h1 h2
  exact ⟨l1,l2,h.1 ⟨q,h1⟩⟩
 ·rintro ⟨l1,l2,h3⟩
  obtain ⟨q,hq⟩:=h.2 h3
  exact ⟨q,hq,sz_of bf hq l1 l2⟩
theorem nU (N:Nat) (hN:N≤4096) (l:List Int):∃ t,Ev (fun k=>gC k l (N:Int)) t∧(t=true↔l.length≤N∧Nm l):=by
 by_cases h1:l.length≤N
 ·by_cases h0:l.length=0
  ·have:l=[]:=List.eq_nil_of_length_eq_zero h0
   subst this
   exact ⟨true,Ev.step (fun k=>jn k _ _) (Ev.bind (bT rfl (Ev.bind (bT rfl (evs _)) (evs _))) (evs _)),by simp;exact P.Nm.nil⟩
  ·have e:wrap64 ((l.length:Int)-1)=(l.length:Int)-1:=w64 (by omega) (by omega)
   refine ⟨rd l ((l.length:Int)-1) != 0,Ev.step (fun k=>jn k _ _) (Ev.bind (bT (decide_eq_true (by omega)) (Ev.bind (bF (by simp;intro e;exact h0 (by simp [e])) ?_) (evs _))) (evs _)),?_⟩
   ·rw [e]
    exact iT (by omega) (evs _)
   ·simp only [bne_iff_ne]
    exact ⟨fun h=>⟨h1,P.mX (fun _=>h)⟩,fun h=>h.2.rd (by omega)⟩
 ·exact ⟨false,Ev.step (fun k=>jn k _ _) (Ev.bind (bF (decide_eq_false (by omega)) (evs _)) (evs _)),by simp;omega⟩
theorem uo (N:Nat) (hN:N≤4096) (ha:Arg v):∃ t,Ev (fun k=>dq k v (N:Int)) t∧(t=true↔VN N v):=by
 have hiff:=vn_iff N ha
 obtain ⟨da,db,la,lb⟩:=ha
 obtain ⟨s,a,b,_⟩:=v
 obtain ⟨t1,e1,i1⟩:=nU N hN a
 obtain ⟨t2,e2,i2⟩:=nU N hN b
 show ∃ t,Ev (fun k=>dq k (s,a,b,()) (N:Int)) t∧(t=true↔VN N (s,a,b,()))
 by_cases c1:a.length≤N∧Nm a
 ·by_cases c2:b.length≤N∧Nm b
  ·obtain rfl:=i1.2 c1
   obtain rfl:=i2.2 c2
   have hb0:=qU db c2.2
   have ca:P.Can WW a (vl WW a):=⟨da,c1.2,rfl⟩
   have cb:P.Can WW b (vl WW b):=⟨db,c2.2,rfl⟩
   have h1:=uC cb
   by_cases c3:vl WW b=0
   ·refine ⟨false,Ev.step (fun k=>gU k _ _) (Ev.bind e1 (Ev.bind (a:=false) (bF rfl (Ev.bind e2 (evs _))) (Ev.bind (a:=true) (bF rfl ?_) (bT rfl (evs _))))),?_⟩
    ·rw [hb0,decide_eq_true c3];exact evs _
    ·rw [hiff];simp [c3]
   ·refine (?_:∃ t,Ev (fun k=>bif (List.length a:Int)==(0:Int) then _ else _) t∧_).elim fun t h=>⟨t,Ev.step (fun k=>gU k _ _) (Ev.bind e1 (Ev.bind (a:=false) (bF rfl (Ev.bind e2 (evs _))) (Ev.bind (a:=false) (bF rfl ?_) (bF rfl h.1)))),h.2⟩
    ·by_cases c4:vl WW a=0
     ·have ha0:((List.length a:Int)==(0:Int))=true:=by rw [qU da c1.2];exact decide_eq_true c4
      cases s with
      | true =>
       refine ⟨false,bT ha0 (Ev.bind (a:=false) (bF rfl (evs _)) (Ev.bind (bF rfl (evs _)) (evs _))),?_⟩
       rw [hiff];simp [c4]
      | false =>
       refine ⟨decide (vl WW b=1),bT ha0 ?_,?_⟩
       ·by_cases c5:((List.length b:Int)==(1:Int))=true
        ·rw [c5] at h1
         refine Ev.bind (a:=true) (bT rfl (by rw [show (List.length (false,a,b,()).2.2.1:Int)=(List.length b:Int) from rfl,c5];exact evs _)) (Ev.bind (bT rfl ?_) (evs _))
         have h1':(if 0≤(0:Int)∧(0:Int)<(List.length b:Int) then some ((rdT (t:=(.int .u32)) b (0:Int):Int)==(1:Int)) else none)=some (decide (vl WW b=1)):=h1
         exact evk h1'
        ·have c6:=Bool.eq_false_iff.2 c5
         rw [c6] at h1
         have h1':some false=some (decide (vl WW b=1)):=h1
         rw [← Option.some.inj h1']
         exact Ev.bind (a:=false) (bT rfl (by rw [show (List.length (false,a,b,()).2.2.1:Int)=(List.length b:Int) from rfl,c6];exact evs _)) (Ev.bind (bF rfl (evs _)) (evs _))
       ·rw [hiff,decide_eq_true_eq]
        simp [c4,c1,c2,c3]
     ·have ha0:((List.length a:Int)==(0:Int))=false:=zN bf ca c4
      by_cases c5:vl WW b=1
      ·refine ⟨true,bF ha0 (Ev.bind (evk h1) (bT (decide_eq_true c5) (evs _))),?_⟩
       rw [hiff]
       have:gI (vl WW a) 1=1:=by unfold P.gI;simp
       simp [c4,c1,c2,c5,this]
      ·obtain ⟨g,g1,g2⟩:=q_GCD (by omega) (by omega) ca cb
       have h2:=uC g2
       refine ⟨decide (gI (vl WW a) (vl WW b)=1),bF ha0 (Ev.bind (evk h1) (bF (decide_eq_false c5) (Ev.bind g1 (Ev.bind (evk h2) (evs _))))),?_⟩
       rw [hiff,decide_eq_true_eq]
       simp [c4,c1,c2,c3]
    ·rw [hb0,decide_eq_false c3];exact evs _
  ·obtain rfl:=i1.2 c1
   have:t2=false:=Bool.eq_false_iff.2 (fun e=>c2 (i2.1 e))
   subst this
   refine ⟨false,Ev.step (fun k=>gU k _ _) (Ev.bind e1 (Ev.bind (a:=true) (bF rfl (Ev.bind e2 (evs _))) (Ev.bind (a:=true) (bT rfl (evs _)) (bT rfl (evs _))))),?_⟩
   rw [hiff]
   simp
   intro h1 h2 h3 h4
   exact absurd ⟨h2,h4⟩ c2
 ·have:t1=false:=Bool.eq_false_iff.2 (fun e=>c1 (i1.1 e))
  subst this
  refine ⟨false,Ev.step (fun k=>gU k _ _) (Ev.bind e1 (Ev.bind (a:=true) (bT rfl (evs _)) (Ev.bind (a:=true) (bT rfl (evs _)) (bT rfl (evs _))))),?_⟩
  rw [hiff]
  simp
  intro h1 h2 h3 h4
  exact absurd ⟨h1,h3⟩ c1
end
end Go.Proofs.YtfbgaddecbiimaaGreatDoor.Q
end
section
namespace Go.Proofs.YtfbgaddecbiimaaGreatDoor.Q
open Go.RowKit Go.Proofs.YtfbgaddecbiimaaGreatDoorW.PrintWords Go.Proofs.YtfbgaddecbiimaaGreatDoorW.PrintMore Go.Proofs.YtfbgaddecbiimaaGreatDoor.V Go.Proofs.YtfbgaddecbiimaaGreatDoor.E
open Go.Proofs.YtfbgaddecbiimaaGreatDoor.P (Dg Nm vl WW RR dC gI evs evk evb iz bf cZ cQ w64 u64)
set_option linter.unusedVariables false
noncomputable def dc (p:Prop):Bool:=@decide p (Classical.propDecidable p)
theorem fC {p:Prop} (h:p):dc p=true:=@decide_eq_true p (Classical.propDecidable p) h
theorem cW {p:Prop} (h:¬ p):dc p=false:=@decide_eq_false p (Classical.propDecidable p) h
theorem dc_of {p:Prop} {t:Bool} (h:t=true↔p):t=dc p:=by
 cases t with
 | true=>exact (fC (h.1 rfl)).symm
 | false=>exact (cW (fun hp=>by have:=h.2 hp;cases this)).symm
theorem rZ {t:Ty} {l:List t.den} {i:Nat} (h:i<l.length):rdT l (i:Int)=l[i]:=by
 simp [rdT,h]
theorem inc1 {i:Nat} (h:i<9223372036854775807):wrap64 ((i:Int)+1)=((i+1:Nat):Int):=by
 rw [w64 (by omega) (by omega)];omega
section
variable {v w:gX} {p q:Rat} {K L:Nat}
theorem sA (N:Nat) (hN:N≤4096) (ha:Arg v):Ev (fun k=>dq k v (N:Int)) (dc (VN N v)):=by
 obtain ⟨t,h1,h2⟩:=uo N hN ha
 rw [← dc_of h2]
 exact h1
theorem uZ {N:Nat} (hN:N≤4096) (ha:Arg v):VN N v↔(v.2.1.length≤N∧v.2.2.1.length≤N)∧Vd v:=by
 constructor
 ·rintro ⟨q,h1,h2⟩
  exact ⟨vg cZ h1 h2,q,h1,sz_mono bf h2 hN⟩
 ·rintro ⟨⟨h1,h2⟩,q,h3,h4⟩
  exact ⟨q,h3,sz_of bf h3 h1 h2⟩
theorem rV (ha:Arg v):Ev (fun k=>dB k v) (dc (Vd v)):=by
 obtain ⟨t,h1,h2⟩:=rU ha
 rw [← dc_of h2]
 exact h1
end
end Go.Proofs.YtfbgaddecbiimaaGreatDoor.Q
end
section
namespace Go.Proofs.YtfbgaddecbiimaaGreatDoor.E
open Go.RowKit Go.Proofs.YtfbgaddecbiimaaGreatDoorW.PrintWords Go.Proofs.YtfbgaddecbiimaaGreatDoorW.PrintMore Go.Proofs.YtfbgaddecbiimaaGreatDoor.V
theorem le_up {α:Type} {f:Nat→Option α} (h:∀ k,LeO (f k) (f (k+1))):∀ (k k':Nat),k≤k'→LeO (f k) (f k')
 | k,0,hk=>by
  have:k=0:=by omega
  subst this
  exact LeO.refl _
 | k,k'+1,hk=>by
  by_cases c:k=k'+1
  ·rw [c];exact LeO.refl _
  ·exact (le_up h k k' (by omega)).trans (h k')
theorem uB {α β:Type} {a b:Option α} {f:α→β} (h:LeO a b):LeO (a.map f) (b.map f):=by
 intro r hr
 obtain ⟨x,h1,rfl⟩:=Option.map_eq_some_iff.1 hr
 rw [h x h1]
 rfl
theorem fJ {c0 ct:Ty} {f:Nat→c0.den→Option ct.den} (hf:∀ (x0:c0.den) (k:Nat),LeO (f k x0) (f (k+1) x0)) (call call':(g:Nat)→List Val→Option (T.out g).den) (k k':Nat) (vs:List Val) (hk:k≤k'):Lq ((xK (T:=T) c0 ct f).g call k vs) ((xK (T:=T) c0 ct f).g call' k' vs):=by
 simp only [xK]
 split
 ·split
  ·exact le_up (fun k=>hf _ k) k k' hk
  ·exact iH
 ·exact iH
theorem cO {c0 c1 ct:Ty} {f:Nat→c0.den→c1.den→Option ct.den} (hf:∀ (x0:c0.den) (x1:c1.den) (k:Nat),LeO (f k x0 x1) (f (k+1) x0 x1)) (call call':(g:Nat)→List Val→Option (T.out g).den) (k k':Nat) (vs:List Val) (hk:k≤k'):Lq ((oX (T:=T) c0 c1 ct f).g call k vs) ((oX (T:=T) c0 c1 ct f).g call' k' vs):=by
 simp only [oX]
 split
 ·split
  ·exact le_up (fun k=>hf _ _ k) k k' hk
  ·exact iH
 ·exact iH
theorem zx {c0 c1 c2 ct:Ty} {f:Nat→c0.den→c1.den→c2.den→Option ct.den} (hf:∀ (x0:c0.den) (x1:c1.den) (x2:c2.den) (k:Nat),LeO (f k x0 x1 x2) (f (k+1) x0 x1 x2)) (call call':(g:Nat)→List Val→Option (T.out g).den) (k k':Nat) (vs:List Val) (hk:k≤k'):Lq ((orc3 (T:=T) c0 c1 c2 ct f).g call k vs) ((orc3 (T:=T) c0 c1 c2 ct f).g call' k' vs):=by
 simp only [orc3]
 split
 ·split
  ·exact le_up (fun k=>hf _ _ _ k) k k' hk
  ·exact iH
 ·exact iH
theorem zv:rh orcA:=by
 intro x hx call call' k k' vs _ hk
 simp only [orcA,List.mem_cons,List.not_mem_nil,or_false] at hx
 rcases hx with rfl | rfl | rfl | rfl | rfl | rfl | rfl | rfl | rfl | rfl | rfl | rfl | rfl | rfl | rfl | rfl | rfl | rfl | rfl | rfl | rfl | rfl | rfl | rfl
 ·exact cO (fun a0 a1 k=>(P.aH.mono a0 a1 k)) call call' k k' vs hk
 ·exact cO (fun a0 a1 k=>(P.aq.mono a0 a1 k)) call call' k k' vs hk
 ·exact cO (fun a0 a1 k=>(uB (P.aw.mono a0 a1 k))) call call' k k' vs hk
 ·exact cO (fun a0 a1 k=>(P.an.mono a0 a1 k)) call call' k k' vs hk
 ·exact fJ (fun a0 k=>(P.ax.mono a0 k)) call call' k k' vs hk
 ·exact cO (fun a0 a1 k=>(P.az.mono a0 a1 k)) call call' k k' vs hk
 ·exact cO (fun a0 a1 k=>(P.aR.mono a0 a1 k)) call call' k k' vs hk
 ·exact zx (fun a0 a1 a2 k=>(P.ah.mono a0 a1 a2 k)) call call' k k' vs hk
 ·exact cO (fun a0 a1 k=>(P.aE.mono a0 a1 k)) call call' k k' vs hk
 ·exact fJ (fun a0 k=>(P.aG.mono a0 k)) call call' k k' vs hk
 ·exact fJ (fun a0 k=>(LeO.refl _)) call call' k k' vs hk
 ·exact fJ (fun a0 k=>(P.aF.mono a0 k)) call call' k k' vs hk
 ·exact cO (fun a0 a1 k=>(P.cA.mono a0 a1 k)) call call' k k' vs hk
 ·exact fJ (fun a0 k=>(LeO.refl _)) call call' k k' vs hk
 ·exact cO (fun a0 a1 k=>(P.bM.mono a0 a1 k)) call call' k k' vs hk
 ·exact cO (fun a0 a1 k=>(uB (P.aB.mono a0 a1 k))) call call' k k' vs hk
 ·exact fJ (fun a0 k=>(P.bw.mono a0 k)) call call' k k' vs hk
 ·exact cO (fun a0 a1 k=>(P.bD.mono a0 a1 k)) call call' k k' vs hk
 ·exact cO (fun a0 a1 k=>(P.bg.mono a0 a1 k)) call call' k k' vs hk
 ·exact cO (fun a0 a1 k=>(P.bW.mono a0 a1 k)) call call' k k' vs hk
 ·exact cO (fun a0 a1 k=>(P.cd.mono a0 a1 k)) call call' k k' vs hk
 ·exact fJ (fun a0 k=>(uB (P.bX.mono a0 k))) call call' k k' vs hk
 ·exact fJ (fun a0 k=>(LeO.refl _)) call call' k k' vs hk
 ·exact cO (fun a0 a1 k=>(P.aK.mono a0 a1 k)) call call' k k' vs hk
end Go.Proofs.YtfbgaddecbiimaaGreatDoor.E
end
section
namespace Go.Proofs.YtfbgaddecbiimaaGreatDoor.E
open Go.RowKit Go.Proofs.YtfbgaddecbiimaaGreatDoorW.PrintWords Go.Proofs.YtfbgaddecbiimaaGreatDoorW.PrintMore Go.Proofs.YtfbgaddecbiimaaGreatDoor.V
set_option linter.unusedVariables false
theorem zK {β:Type} {b:Bool} {x x' y y':Option β} (hx:Lq x x') (hy:Lq y y'):Lq (bif b then x else y) (bif b then x' else y'):=by
 cases b
 ·exact hy
 ·exact hx
theorem xp {call call':(g:Nat)→List Val→Option (T.out g).den} (h:∀ g vs,Lq (call g vs) (call' g vs)) (y:gX):Lq (lE call y) (lE call' y):=by
 unfold lE
 refine fU (h _ _) (fun ok=>zK (fU (h _ _) (fun n=>fU (h _ _) (fun wh=>zK (Lq.refl _) (fU (h _ _) (fun d=>Lq.refl _))))) (Lq.refl _))
theorem varO_lq {a a':Option aA.den} {s s':aA.den→Option Int} {c c':aA.den→Option aA.den} (ha:Lq a a') (hs:∀ x,Lq (s x) (s' x)) (hc:∀ x,Lq (c x) (c' x)) (n i:Int):Lq (varO a s c n i) (varO a' s' c' n i):=by
 unfold varO
 split
 ·exact Lq.refl _
 ·exact fU ha (fun x=>fU (hs x) (fun t=>zK (Lq.refl _) (fU (hc x) (fun y=>Lq.refl _))))
theorem jK:rh orc:=by
 intro x hx call call' k k' vs hc hk
 simp only [orc,List.mem_cons] at hx
 rcases hx with rfl | rfl | rfl | hx
 ·simp only [iF]
  split
  ·split
   ·exact xp hc _
   ·exact Lq.refl _
  ·exact Lq.refl _
 ·simp only [fQ]
  exact cO (fun _ _ _=>LeO.refl _) call call' k k' vs hk
 ·simp only [iG]
  split
  ·split
   ·exact varO_lq (hc _ _) (fun x=>hc _ _) (fun x=>hc _ _) _ _
   ·exact Lq.refl _
  ·exact Lq.refl _
 ·exact zv x hx call call' k k' vs hc hk
end Go.Proofs.YtfbgaddecbiimaaGreatDoor.E
namespace Go.Proofs.YtfbgaddecbiimaaGreatDoor.Q
open Go.RowKit Go.Proofs.YtfbgaddecbiimaaGreatDoor.V Go.Proofs.YtfbgaddecbiimaaGreatDoor.E
theorem awake_at:ef 60=some true:=by
 kernel_rfl
end Go.Proofs.YtfbgaddecbiimaaGreatDoor.Q
end
section
namespace Go.Proofs.YtfbgaddecbiimaaGreatDoor.Q
open Go.RowKit Go.Proofs.YtfbgaddecbiimaaGreatDoorW.PrintWords Go.Proofs.YtfbgaddecbiimaaGreatDoorW.PrintMore Go.Proofs.YtfbgaddecbiimaaGreatDoor.V Go.Proofs.YtfbgaddecbiimaaGreatDoor.E
open Go.Proofs.YtfbgaddecbiimaaGreatDoor.P (Dg Nm vl WW RR dC gI evs evk evb iz bf cZ cQ w64 u64)
set_option linter.unusedVariables false
theorem dnw {n:Nat} {P:Nat→Prop} (hn:P n) (hs:∀ i,i<n→P (i+1)→P i):∀ i,i≤n→P i:=by
 have key:∀ d i,n-i=d→i≤n→P i:=by
  intro d
  induction d with
  | zero =>
   intro i hd hi;have:i=n:=by omega
   subst this;exact hn
  | succ d ih=>intro i hd hi;exact hs i (by omega) (ih (i+1) (by omega) (by omega))
 exact fun i hi=>key (n-i) i rfl hi
theorem nh {α:Type} {l:List α} {i:Nat} (h:i<l.length):l.drop i=l[i] :: l.drop (i+1):=List.drop_eq_getElem_cons h
theorem xA (x y:List Int) (h:x.length≤y.length) (hy:y.length≤9223372036854775807):Ev (fun k=>dJ k x y) (dN x y):=by
 have main:=dnw (n:=x.length) (P:=fun i=>Ev2 (fun k m=>dJ.l0 k m y x (x.length:Int) (i:Int)) (dN (x.drop i) (y.drop i))) ?_ ?_ 0 (Nat.zero_le _)
 ·exact Ev.step (fun k=>xB k x y) main.diag
 ·rw [List.drop_length]
  exact Ev2.step (fun k m=>dJ.dj k m _ _ _ _) (Ev2.bF (decide_eq_false (by omega)) (Ev2.of (evs _)))
 ·intro i hi ih
  have hiy:i<y.length:=by omega
  have e1:(rdT (t:=(.int .i64)) x (i:Int):Int)=x[i]:=rZ hi
  have e2:(rdT (t:=(.int .i64)) y (i:Int):Int)=y[i]:=rZ hiy
  rw [nh hi,nh hiy]
  refine Ev2.step (fun k m=>dJ.dj k m _ _ _ _) (Ev2.bT (decide_eq_true (by omega)) (Ev2.iT (by omega) (Ev2.iT (by omega) ?_)))
  rw [e1,e2]
  by_cases c:x[i]=y[i]
  ·have ce:dN (x[i] :: x.drop (i+1)) (y[i] :: y.drop (i+1))=dN (x.drop (i+1)) (y.drop (i+1)):=by simp only [dN,if_pos c]
   rw [ce]
   refine Ev2.bF (by simp [c]) ?_
   rw [inc1 (by omega)]
   exact ih
  ·refine Ev2.bT (by simp [c]) (Ev2.iT (by omega) ?_)
   by_cases d:x[i]<y[i]
   ·have ce:dN (x[i] :: x.drop (i+1)) (y[i] :: y.drop (i+1)) = -1:=by simp only [dN,if_neg c,if_pos d]
    rw [ce]
    exact Ev2.bT (decide_eq_true d) (Ev2.of (evs _))
   ·have ce:dN (x[i] :: x.drop (i+1)) (y[i] :: y.drop (i+1))=1:=by simp only [dN,if_neg c,if_neg d]
    rw [ce]
    exact Ev2.bF (decide_eq_false d) (Ev2.of (evs _))
def sE:List Int→Int
 | []=>0
 | x :: l=>x+sE l
theorem nE:∀ a b,sE (a++b)=sE a+sE b
 | [],b=>by simp [sE]
 | x :: a,b=>by rw [List.cons_append,sE,sE,nE a b];omega
theorem l9 {l:List Int} {i:Nat} (h:i<l.length):sE (l.take (i+1))=sE (l.take i)+l[i]:=by
 rw [List.take_succ_eq_append_getElem h,nE];simp [sE]
theorem qf {B:Int} (hB:0≤B):∀ {l:List Int},(∀ x∈l,0≤x∧x≤B)→0≤sE l∧sE l≤B*l.length
 | [],_=>by simp [sE]
 | x :: l,h=>by
  have h1:=qf hB (l:=l) (fun y hy=>h y (by simp [hy]))
  have h2:=h x (by simp)
  have e:B*((x :: l).length:Int)=B*l.length+B:=by simp only [List.length_cons];grind
  simp only [sE]
  omega
abbrev ri (x:List Int):List Int:=fX (0:Int) 8 x
theorem dF {α:Type} (z:α):∀ (n:Nat) (l:List α),(fX z n l).length=n
 | 0,l=>rfl
 | n+1,[]=>by simp [fX,dF z n]
 | n+1,a :: l=>by simp [fX,dF z n]
theorem dS {α:Type} (z:α):∀ (n:Nat) (l:List α),l.length≤n→fX z n l=l++List.replicate (n-l.length) z
 | 0,[],_=>rfl
 | 0,_ :: _,h=>by simp at h
 | n+1,[],_=>by
  have:=dS z n [] (Nat.zero_le _)
  simp only [fX,this,List.nil_append,List.length_nil,Nat.sub_zero]
  rfl
 | n+1,a :: l,h=>by
  have:=dS z n l (by simpa using h)
  simp only [fX,this,List.cons_append,List.length_cons,Nat.add_sub_add_right]
theorem yY:∀ n,sE (List.replicate n (0:Int))=0
 | 0=>rfl
 | n+1=>by rw [List.replicate_succ,sE,yY n];rfl
theorem sE_pad {x:List Int} (h:x.length≤8):sE (ri x)=sE x:=by
 rw [ri,dS _ _ _ h,nE,yY];omega
theorem tf (n m:Nat):∀ x y:List Int,x.length=y.length→dN (x++List.replicate n 0) (y++List.replicate n 0)=dN x y
 | [],[],_=>by
  show dN (List.replicate n 0) (List.replicate n 0)=0
  exact oB _
 | [],_ :: _,h=>by simp at h
 | _ :: _,[],h=>by simp at h
 | a :: x,b :: y,h=>by
  simp only [List.cons_append,dN,tf n m x y (by simpa using h)]
theorem cmpE_pad {x y:List Int} (hx:x.length≤8) (h:x.length=y.length):dN (ri x) (ri y)=dN x y:=by
 rw [ri,ri,dS _ _ _ hx,dS _ _ _ (by omega),← h]
 exact tf _ 0 x y h
theorem tS {e:List Int} (he:e.length=8) {i:Nat} (hi:i<8):rdA (0:Int) 8 e (i:Int)=e[i]:=by
 simp only [rdA,Int.toNat_natCast,Nat.mod_eq_of_lt hi]
 rw [List.getD_eq_getElem?_getD,List.getElem?_eq_getElem (by omega)]
 rfl
theorem vz (u:Int):∀ (l:List Int) (i:Nat),i<l.length→setA (0:Int) u l i=l.set i u
 | [],i,h=>by simp at h
 | _ :: l,0,_=>rfl
 | a :: l,i+1,h=>by
  show a :: setA (0:Int) u l i=a :: l.set i u
  rw [vz u l i (by simpa using h)]
theorem stA_set {e:List Int} (he:e.length=8) {i:Nat} (hi:i<8) (u:Int):stA (0:Int) 8 e (i:Int) u=e.set i u:=by
 simp only [stA,Int.toNat_natCast,Nat.mod_eq_of_lt hi]
 exact vz u e i (by omega)
theorem rW (e:List Int) (he:e.length=8) (hb:∀ x∈e,0≤x∧x≤1000000):Ev (fun k=>bQ k e) (sE e):=by
 have hs:∀ i,0≤sE (e.take i)∧sE (e.take i)≤1000000*8:=fun i=>by
  have:=qf (B:=1000000) (by omega) (l:=e.take i) (fun x hx=>hb x (List.mem_of_mem_take hx))
  have h2:((e.take i).length:Int)≤8:=by rw [List.length_take];omega
  omega
 have main:=dnw (n:=8) (P:=fun i=>Ev2 (fun k m=>bQ.l0 k m (sE (e.take i)) e (i:Int)) (sE e)) ?_ ?_ 0 (by omega)
 ·exact Ev.step (fun k=>iJ k e) main.diag
 ·have:e.take 8=e:=List.take_of_length_le (by omega)
  rw [this]
  exact Ev2.step (fun k m=>bQ.dj k m _ _ _) (Ev2.bF (decide_eq_false (by omega)) (Ev2.of (evs _)))
 ·intro i hi ih
  refine Ev2.step (fun k m=>bQ.dj k m _ _ _) (Ev2.bT (decide_eq_true (by omega)) (Ev2.iT (by omega) ?_))
  rw [tS he hi,← l9 (by omega),inc1 (by omega)]
  have:=hs (i+1)
  rw [w64 (by omega) (by omega)]
  exact ih
theorem qi (a b:List Int) (ha:a.length=8) (hb:b.length=8):Ev (fun k=>bJ k a b) (decide (dN a b>0)):=by
 have main:=dnw (n:=8) (P:=fun i=>Ev2 (fun k m=>bJ.l0 k m (i:Int) a b) (decide (dN (a.drop i) (b.drop i)>0))) ?_ ?_ 0 (by omega)
 ·exact Ev.step (fun k=>iv k a b) main.diag
 ·rw [List.drop_of_length_le (by omega)]
  exact Ev2.step (fun k m=>bJ.dj k m _ _ _) (Ev2.bF (decide_eq_false (by omega)) (Ev2.of (evs _)))
 ·intro i hi ih
  have hia:i<a.length:=by omega
  have hib:i<b.length:=by omega
  rw [nh hia,nh hib]
  refine Ev2.step (fun k m=>bJ.dj k m _ _ _) (Ev2.bT (decide_eq_true (by omega)) (Ev2.iT (by omega) (Ev2.iT (by omega) ?_)))
  rw [tS ha hi,tS hb hi]
  by_cases c:a[i]=b[i]
  ·have ce:dN (a[i] :: a.drop (i+1)) (b[i] :: b.drop (i+1))=dN (a.drop (i+1)) (b.drop (i+1)):=by simp only [dN,if_pos c]
   rw [ce]
   refine Ev2.bF (by simp [c]) ?_
   rw [inc1 (by omega)]
   exact ih
  ·refine Ev2.bT (by simp [c]) (Ev2.iT (by omega) (Ev2.iT (by omega) ?_))
   have ce:decide (dN (a[i] :: a.drop (i+1)) (b[i] :: b.drop (i+1))>0)=decide (a[i]>b[i]):=by
    simp only [dN,if_neg c]
    by_cases d:a[i]<b[i]
    ·rw [if_pos d,decide_eq_false (by omega),decide_eq_false (by omega)]
    ·rw [if_neg d,decide_eq_true (by omega),decide_eq_true (by omega)]
   rw [ce]
   exact Ev2.of (evs _)
end Go.Proofs.YtfbgaddecbiimaaGreatDoor.Q
end
section
namespace Go.Proofs.YtfbgaddecbiimaaGreatDoor.Q
open Go.RowKit Go.Proofs.YtfbgaddecbiimaaGreatDoorW.PrintWords Go.Proofs.YtfbgaddecbiimaaGreatDoorW.PrintMore Go.Proofs.YtfbgaddecbiimaaGreatDoor.V Go.Proofs.YtfbgaddecbiimaaGreatDoor.E
open Go.Proofs.YtfbgaddecbiimaaGreatDoor.P (Dg Nm vl WW RR dC gI evs evk evb iz bf cZ cQ w64 u64)
set_option linter.unusedVariables false
theorem yb {c:Prop} [Decidable c] (h:¬ c):Ev (fun _=>some (decide c)) false:=by rw [decide_eq_false h];exact evs _
theorem yq {c:Prop} [Decidable c] (h:c):Ev (fun _=>some (decide c)) true:=by rw [decide_eq_true h];exact evs _
def ArgM (t:dK):Prop:=t.1.length≤9223372036854775807∧Arg t.2.1
def wF (p:bG):Prop:=p.2.1.length≤9223372036854775807∧∀ t∈p.2.1,ArgM t
structure TermOk (N:Int) (t:dK):Prop where
 len:(t.1.length:Int)=N
 ex:∀ x∈t.1,0≤x∧x≤40
 sum:sE t.1≤40
 co:VN 200 t.2.1
 ne:t.2.1.2.1.length≠0
abbrev tmA (p:bG) (i:Nat):dK:=rdT (t:=aJ) p.2.1 (i:Int)
def oL (p:bG) (i:Nat):Prop:=TermOk p.1 (tmA p i)∧(0<i→dN (tmA p (i-1)).1 (tmA p i).1>0)
structure iy (p:bG):Prop where
 n0:0≤p.1
 n8:p.1≤8
 few:p.2.1.length≤4000
 good:∀ i,i<p.2.1.length→oL p i
theorem tD {p:bG} (ha:wF p) {i:Nat} (hi:i<p.2.1.length):ArgM (tmA p i):=by
 have:tmA p i=p.2.1[i]:=rZ hi
 rw [this]
 exact ha.2 _ (List.getElem_mem _)
theorem uq (v:gX) (N:Nat):Ev (fun k=>jL k v (N:Int)) (decide (v.2.1.length≤N∧v.2.2.1.length≤N)):=by
 by_cases c:v.2.1.length≤N
 ·by_cases d:v.2.2.1.length≤N
  ·rw [decide_eq_true ⟨c,d⟩]
   exact Ev.step (fun k=>kj k v _) (Ev.bind (a:=true) (bT (decide_eq_true (by omega)) (by rw [show decide ((v.2.2.1.length:Int)≤(N:Int))=true from decide_eq_true (by omega)];exact evs _)) (evs _))
  ·rw [decide_eq_false (fun h=>d h.2)]
   exact Ev.step (fun k=>kj k v _) (Ev.bind (a:=false) (bT (decide_eq_true (by omega)) (by rw [show decide ((v.2.2.1.length:Int)≤(N:Int))=false from decide_eq_false (by omega)];exact evs _)) (evs _))
 ·rw [decide_eq_false (fun h=>c h.1)]
  exact Ev.step (fun k=>kj k v _) (Ev.bind (a:=false) (bF (decide_eq_false (by omega)) (evs _)) (evs _))
theorem sB (v:gX):∃ s,Ev (fun k=>kY k v) s∧((s==(0:Int))=decide (v.2.1.length=0)):=by
 by_cases c:v.2.1.length=0
 ·refine ⟨0,Ev.step (fun k=>ki k v) (bT (by simp [c]) (evs _)),by rw [decide_eq_true c];rfl⟩
 ·have hc:((List.length v.2.1:Int)==(0:Int))=false:=by simp;intro h;exact c (by rw [h];rfl)
  cases hs:v.1 with
  | true=>exact ⟨-1,Ev.step (fun k=>ki k v) (bF hc (bT hs (evs _))),by rw [decide_eq_false c];rfl⟩
  | false=>exact ⟨1,Ev.step (fun k=>ki k v) (bF hc (bF hs (evs _))),by rw [decide_eq_false c];rfl⟩
theorem vn_len {N:Nat} {v:gX} (h:VN N v):v.2.1.length≤N∧v.2.2.1.length≤N:=by
 obtain ⟨q,h1,h2⟩:=h
 exact vg cZ h1 h2
section
variable {p:bG} {i:Nat}
theorem wM (ha:wF p) (hi:i<p.2.1.length) (hl:(tmA p i).1.length≤9223372036854775807) (hp:0<i→(tmA p (i-1)).1.length≤(tmA p i).1.length) {r:Bool} (hr:(sE (tmA p i).1≤40∧(0<i→dN (tmA p (i-1)).1 (tmA p i).1>0)∧VN 200 (tmA p i).2.1)→Ev2 (fun k m=>bj.l0 k m p.2.1 (p.2.1.length:Int) ((i+1:Nat):Int) p) r) (hf:¬ (sE (tmA p i).1≤40∧(0<i→dN (tmA p (i-1)).1 (tmA p i).1>0)∧VN 200 (tmA p i).2.1)→r=false) :
 Ev2 (fun k m0=>(bif decide (sE (tmA p i).1>(40:Int)) then some true else (bif decide ((i:Int)>(0:Int)) then if 0≤(wrap64 ((i:Int)-(1:Int)))∧(wrap64 ((i:Int)-(1:Int)))<(List.length p.2.1:Int) then (dJ k ((rdT (t:=aJ) p.2.1 (wrap64 ((i:Int)-(1:Int))):dK).1) (tmA p i).1).bind fun (v8:Int) =>
  some (decide (v8≤(0:Int))) else none else some false).bind fun (b9:Bool) =>
  some b9).bind fun (b10:Bool) =>
  (bif b10 then some true else (dq k (tmA p i).2.1 (200:Int)).bind fun (v11:Bool) =>
  some (!v11)).bind fun (b12:Bool) =>
  bif b12 then
   some false
  else
   bj.l0 k m0 p.2.1 (p.2.1.length:Int) (wrap64 ((i:Int)+(1:Int))) p) r:=by
 have hlen:=ha.1
 have hv:Ev (fun k=>dq k (tmA p i).2.1 (200:Int)) (dc (VN 200 (tmA p i).2.1)):=sA 200 (by omega) (tD ha hi).2
 by_cases c1:sE (tmA p i).1>40
 ·rw [hf (fun h=>by omega)]
  exact Ev2.bind (a:=true) (bT (decide_eq_true c1) (evs _)) (Ev2.bind (a:=true) (bT rfl (evs _)) (Ev2.bT rfl (Ev2.of (evs _))))
 ·have h2:Ev (fun k=>(bif decide ((i:Int)>(0:Int)) then if 0≤(wrap64 ((i:Int)-(1:Int)))∧(wrap64 ((i:Int)-(1:Int)))<(List.length p.2.1:Int) then (dJ k ((rdT (t:=aJ) p.2.1 (wrap64 ((i:Int)-(1:Int))):dK).1) (tmA p i).1).bind fun (v8:Int)=>some (decide (v8≤(0:Int))) else none else some false)) (dc (¬ (0<i→dN (tmA p (i-1)).1 (tmA p i).1>0))):=by
   by_cases c0:0<i
   ·have e1:wrap64 ((i:Int)-1)=((i-1:Nat):Int):=by rw [w64 (by omega) (by omega)];omega
    rw [e1]
    refine bT (decide_eq_true (by omega)) (iT (by omega) (Ev.bind (xA _ _ (hp c0) hl) ?_))
    have:decide (dN (tmA p (i-1)).1 (tmA p i).1≤0)=dc (¬ (0<i→dN (tmA p (i-1)).1 (tmA p i).1>0)):=dc_of (by
     rw [decide_eq_true_eq]
     constructor
     ·intro h h'
      have:=h' c0
      omega
     ·intro h
      apply Classical.byContradiction
      intro h'
      exact h (fun _=>by omega))
    rw [← this]
    exact evs _
   ·rw [cW (fun h=>h (fun h'=>absurd h' c0))]
    exact bF (decide_eq_false (by omega)) (evs _)
  by_cases c2:(0<i→dN (tmA p (i-1)).1 (tmA p i).1>0)
  ·rw [cW (fun h=>h c2)] at h2
   refine Ev2.bind (a:=false) (bF (decide_eq_false c1) (Ev.bind h2 (evs _))) ?_
   by_cases c3:VN 200 (tmA p i).2.1
   ·rw [fC c3] at hv
    refine Ev2.bind (a:=false) (bF rfl (Ev.bind hv (evs _))) (Ev2.bF rfl ?_)
    rw [inc1 (by omega)]
    exact hr ⟨by omega,c2,c3⟩
   ·rw [cW c3] at hv
    rw [hf (fun h=>c3 h.2.2)]
    exact Ev2.bind (a:=true) (bF rfl (Ev.bind hv (evs _))) (Ev2.bT rfl (Ev2.of (evs _)))
  ·rw [fC c2] at h2
   rw [hf (fun h=>c2 h.2.1)]
   exact Ev2.bind (a:=true) (bF (decide_eq_false c1) (Ev.bind h2 (evs _))) (Ev2.bind (a:=true) (bT rfl (evs _)) (Ev2.bT rfl (Ev2.of (evs _))))
theorem tB (ha:wF p) (h8:p.1≤8) (hi:i<p.2.1.length) (hp:0<i→((tmA p (i-1)).1.length:Int)=p.1) {r:Bool} (hr:oL p i→Ev2 (fun k m=>bj.l0 k m p.2.1 (p.2.1.length:Int) ((i+1:Nat):Int) p) r) (hf:¬ oL p i→r=false) :
 Ev2 (fun k m=>bj.l0 k m p.2.1 (p.2.1.length:Int) (i:Int) p) r:=by
 have hlen:=ha.1
 have harg:=tD ha hi
 refine Ev2.step (fun k m=>bj.dj k m _ _ _ _) (Ev2.bT (decide_eq_true (by omega)) (Ev2.iT (by omega) ?_))
 by_cases c1:((tmA p i).1.length:Int)=p.1
 ·have b1:((List.length (tmA p i).1:Int) != p.1)=false:=by simp [c1]
  have hfit:Ev (fun k=>jL k (tmA p i).2.1 (200:Int)) _:=uq (tmA p i).2.1 200
  by_cases c2:(tmA p i).2.1.2.1.length≤200∧(tmA p i).2.1.2.2.1.length≤200
  ·rw [decide_eq_true c2] at hfit
   obtain ⟨s,hs1,hs2⟩:=sB (tmA p i).2.1
   by_cases c3:(tmA p i).2.1.2.1.length=0
   ·rw [decide_eq_true c3] at hs2
    rw [hf (fun h=>h.1.ne c3)]
    exact Ev2.bind (a:=false) (bF b1 (Ev.bind hfit (evs _))) (Ev2.bind (a:=true) (bF rfl (Ev.bind hs1 (by rw [hs2];exact evs _))) (Ev2.bT rfl (Ev2.of (evs _))))
   ·rw [decide_eq_false c3] at hs2
    refine Ev2.bind (a:=false) (bF b1 (Ev.bind hfit (evs _))) (Ev2.bind (a:=false) (bF rfl (Ev.bind hs1 (by rw [hs2];exact evs _))) (Ev2.bF rfl ?_))
    have hx8:(tmA p i).1.length≤8:=by omega
    have tl:=wM (r:=r) ha hi harg.1 (fun h0=>by have:=hp h0;omega)
    have bnd:∀ j,(∀ j' (h:j'<(tmA p i).1.length),j'<j→0≤(tmA p i).1[j']∧(tmA p i).1[j']≤40)→0≤sE ((tmA p i).1.take j)∧sE ((tmA p i).1.take j)≤320:=fun j hg=>by
     have h1:=qf (B:=40) (by omega) (l:=(tmA p i).1.take j) (fun x hx=>by
      obtain ⟨j',h1,rfl⟩:=List.getElem_of_mem hx
      rw [List.length_take] at h1
      rw [List.getElem_take]
      exact hg j' (by omega) (by omega))
     have h2:(((tmA p i).1.take j).length:Int)≤8:=by rw [List.length_take];omega
     omega
    have key:=dnw (n:=(tmA p i).1.length) (P:=fun j=>(∀ j' (h:j'<(tmA p i).1.length),j'<j→0≤(tmA p i).1[j']∧(tmA p i).1[j']≤40)→Ev3 (fun k m1 m0=>bj.l1 k m1 m0 (i:Int) (sE ((tmA p i).1.take j)) p.2.1 (p.2.1.length:Int) (i:Int) (tmA p i).1 ((tmA p i).1.length:Int) (j:Int) p (tmA p i)) r) ?_ ?_ 0 (Nat.zero_le _) (fun j' _ h=>by omega)
    ·exact key.diag
    ·intro hg
     have hall:∀ x∈(tmA p i).1,0≤x∧x≤40:=fun x hx=>by
      obtain ⟨j',h1,rfl⟩:=List.getElem_of_mem hx
      exact hg j' h1 h1
     rw [List.take_length]
     refine Ev3.step (fun k m1 m0=>bj.od k m1 m0 _ _ _ _ _ _ _ _ _ _) (Ev3.bF (decide_eq_false (by omega)) (Ev3.of ?_))
     refine tl (fun h=>hr ⟨⟨c1,hall,h.1,h.2.2,c3⟩,h.2.1⟩) (fun h=>hf (fun g=>h ⟨g.1.sum,g.2,g.1.co⟩))
    ·intro j hj ih hg
     have e1:(rdT (t:=(.int .i64)) (tmA p i).1 (j:Int):Int)=(tmA p i).1[j]:=rZ hj
     refine Ev3.step (fun k m1 m0=>bj.od k m1 m0 _ _ _ _ _ _ _ _ _ _) (Ev3.bT (decide_eq_true (by omega)) (Ev3.iT (by omega) ?_))
     rw [e1]
     by_cases g1:0≤(tmA p i).1[j]∧(tmA p i).1[j]≤40
     ·have b2:=bnd (j+1) (fun j' h1 h2=>by
       by_cases c:j'=j
       ·subst c;exact g1
       ·exact hg j' h1 (by omega))
      have b3:=l9 hj
      refine Ev3.bind (a:=false) (bF (decide_eq_false (show ¬ (tmA p i).1[j]<0 by omega)) (yb (show ¬ (tmA p i).1[j]>40 by omega))) (Ev3.bF rfl ?_)
      rw [← b3,w64 (by omega) (by omega),inc1 (by omega)]
      exact ih (fun j' h1 h2=>by
       by_cases c:j'=j
       ·subst c;exact g1
       ·exact hg j' h1 (by omega))
     ·rw [hf (fun h=>g1 (h.1.ex _ (List.getElem_mem hj)))]
      refine Ev3.bind (a:=true) ?_ (Ev3.bT rfl (Ev3.of (Ev2.of (evs _))))
      by_cases g2:(tmA p i).1[j]<0
      ·exact bT (decide_eq_true g2) (evs _)
      ·exact bF (decide_eq_false g2) (yq (show (tmA p i).1[j]>40 by omega))
  ·rw [decide_eq_false c2] at hfit
   rw [hf (fun h=>c2 (vn_len h.1.co))]
   exact Ev2.bind (a:=true) (bF b1 (Ev.bind hfit (evs _))) (Ev2.bind (a:=true) (bT rfl (evs _)) (Ev2.bT rfl (Ev2.of (evs _))))
 ·have b1:((List.length (tmA p i).1:Int) != p.1)=true:=by simp [c1]
  rw [hf (fun h=>c1 h.1.len)]
  exact Ev2.bind (a:=true) (bT b1 (evs _)) (Ev2.bind (a:=true) (bT rfl (evs _)) (Ev2.bT rfl (Ev2.of (evs _))))
theorem dW (ha:wF p):Ev (fun k=>bj k p) (dc (iy p)):=by
 have hlen:=ha.1
 by_cases c0:p.1<0
 ·rw [cW (fun h=>by have:=h.n0;omega)]
  exact Ev.step (fun k=>gb k p) (Ev.bind (a:=true) (bT (decide_eq_true c0) (evs _)) (Ev.bind (a:=true) (bT rfl (evs _)) (bT rfl (evs _))))
 by_cases c8:p.1>8
 ·rw [cW (fun h=>by have:=h.n8;omega)]
  exact Ev.step (fun k=>gb k p) (Ev.bind (a:=true) (bF (decide_eq_false c0) (yq c8)) (Ev.bind (a:=true) (bT rfl (evs _)) (bT rfl (evs _))))
 by_cases c4:p.2.1.length>4000
 ·rw [cW (fun h=>by have:=h.few;omega)]
  exact Ev.step (fun k=>gb k p) (Ev.bind (a:=false) (bF (decide_eq_false c0) (yb c8)) (Ev.bind (a:=true) (bF rfl (yq (by omega))) (bT rfl (evs _))))
 refine Ev.step (fun k=>gb k p) (Ev.bind (a:=false) (bF (decide_eq_false c0) (yb c8)) (Ev.bind (a:=false) (bF rfl (yb (by omega))) (bF rfl (Ev2.diag (g:=fun k m=>bj.l0 k m p.2.1 (p.2.1.length:Int) (0:Int) p) ?_))))
 have main:=dnw (n:=p.2.1.length) (P:=fun i=>(∀ j,j<i→oL p j)→Ev2 (fun k m=>bj.l0 k m p.2.1 (p.2.1.length:Int) (i:Int) p) (dc (iy p))) ?_ ?_ 0 (Nat.zero_le _) (fun j h=>by omega)
 ·exact main
 ·intro hg
  rw [fC ⟨by omega,by omega,by omega,hg⟩]
  exact Ev2.step (fun k m=>bj.dj k m _ _ _ _) (Ev2.bF (decide_eq_false (by omega)) (Ev2.of (evs _)))
 ·intro i hi ih hg
  refine tB ha (by omega) hi (fun h0=>(hg (i-1) (by omega)).1.len) (fun h=>ih (fun j hj=>?_)) (fun h=>cW (fun hv=>h (hv.good i hi)))
  by_cases c:j=i
  ·rw [c];exact h
  ·exact hg j (by omega)
end
end Go.Proofs.YtfbgaddecbiimaaGreatDoor.Q
end
section
namespace Go.Proofs.YtfbgaddecbiimaaGreatDoor.Q
open Go.RowKit Go.Proofs.YtfbgaddecbiimaaGreatDoorW.PrintWords Go.Proofs.YtfbgaddecbiimaaGreatDoorW.PrintMore Go.Proofs.YtfbgaddecbiimaaGreatDoor.V Go.Proofs.YtfbgaddecbiimaaGreatDoor.E
open Go.Proofs.YtfbgaddecbiimaaGreatDoor.P (Dg Nm vl WW RR dC gI evs evk evb iz bf cZ cQ w64 u64)
set_option linter.unusedVariables false
theorem pad_take {x:List Int} (h:x.length≤8) {j:Nat} (hj:j<x.length):(ri (x.take j)).set j x[j]=ri (x.take (j+1)):=by
 have e1:(x.take j).length=j:=by rw [List.length_take];omega
 have e2:(x.take (j+1)).length=j+1:=by rw [List.length_take];omega
 rw [ri,ri,dS _ _ _ (by omega),dS _ _ _ (by omega),e1,e2,List.take_succ_eq_append_getElem hj]
 obtain ⟨d,hd⟩:∃ d,8-j=d+1:=⟨8-j-1,by omega⟩
 rw [hd,show 8-(j+1)=d by omega,List.replicate_succ,List.set_append_right _ _ (by omega),e1,Nat.sub_self,List.append_assoc]
 rfl
noncomputable def zT (p:bG) (i:Nat):List Int:=match i with
 | 0=>List.replicate 8 (0:Int)
 | i+1=>ri (tmA p i).1
theorem mc (v:gX) (N:Nat):Ev (fun k=>bY k v (N:Int)) (decide (v.2.1.length≤N∧v.2.2.1.length≤N)):=rX v N
section
variable {p:bG} {i:Nat}
theorem ze (ha:wF p) (h8:p.1≤8) (hi:i<p.2.1.length) (hp:0<i→((tmA p (i-1)).1.length:Int)=p.1) {r:Bool} (hr:oL p i→Ev2 (fun k m=>aO.l0 k m p.2.1 (p.2.1.length:Int) ((i+1:Nat):Int) p (zT p (i+1))) r) (hf:¬ oL p i→r=false) :
 Ev2 (fun k m=>aO.l0 k m p.2.1 (p.2.1.length:Int) (i:Int) p (zT p i)) r:=by
 have hlen:=ha.1
 have harg:=tD ha hi
 refine Ev2.step (fun k m=>aO.dj k m _ _ _ _ _) (Ev2.bT (decide_eq_true (by omega)) (Ev2.iT (by omega) ?_))
 by_cases c1:((tmA p i).1.length:Int)=p.1
 ·have b1:((List.length (tmA p i).1:Int) != p.1)=false:=by simp [c1]
  have hsh:Ev (fun k=>bY k (tmA p i).2.1 (200:Int)) _:=mc (tmA p i).2.1 200
  by_cases c2:(tmA p i).2.1.2.1.length≤200∧(tmA p i).2.1.2.2.1.length≤200
  ·rw [decide_eq_true c2] at hsh
   have hv:=rV harg.2
   by_cases c3:Vd (tmA p i).2.1
   ·rw [fC c3] at hv
    have hvn:VN 200 (tmA p i).2.1:=(uZ (by omega) harg.2).2 ⟨c2,c3⟩
    by_cases c4:(tmA p i).2.1.2.1.length=0
    ·rw [hf (fun h=>h.1.ne c4)]
     exact Ev2.bind (a:=false) (bF b1 (Ev.bind hsh (evs _))) (Ev2.bind (a:=false) (bF rfl (Ev.bind hv (evs _))) (Ev2.bind (a:=true) (bF rfl (by rw [show ((List.length (tmA p i).2.1.2.1:Int)==(0:Int))=true by simp [c4]];exact evs _)) (Ev2.bT rfl (Ev2.of (evs _)))))
    ·have c4':((List.length (tmA p i).2.1.2.1:Int)==(0:Int))=false:=by simp;intro h;exact c4 (by rw [h];rfl)
     refine Ev2.bind (a:=false) (bF b1 (Ev.bind hsh (evs _))) (Ev2.bind (a:=false) (bF rfl (Ev.bind hv (evs _))) (Ev2.bind (a:=false) (bF rfl (by rw [c4'];exact evs _)) (Ev2.bF rfl ?_)))
     have hx8:(tmA p i).1.length≤8:=by omega
     have key:=dnw (n:=(tmA p i).1.length) (P:=fun j=>(∀ j' (h:j'<(tmA p i).1.length),j'<j→0≤(tmA p i).1[j']∧(tmA p i).1[j']≤40)→Ev3 (fun k m1 m0=>aO.l1 k m1 m0 (i:Int) p.2.1 (p.2.1.length:Int) (i:Int) (tmA p i).1 ((tmA p i).1.length:Int) (j:Int) p (zT p i) (ri ((tmA p i).1.take j))) r) ?_ ?_ 0 (Nat.zero_le _) (fun j' _ h=>by omega)
     ·exact key.diag
     ·intro hg
      have hall:∀ x∈(tmA p i).1,0≤x∧x≤40:=fun x hx=>by
       obtain ⟨j',h1,rfl⟩:=List.getElem_of_mem hx
       exact hg j' h1 h1
      rw [List.take_length]
      have hb8:∀ x∈ri (tmA p i).1,0≤x∧x≤1000000:=fun x hx=>by
       rw [ri,dS _ _ _ hx8,List.mem_append,List.mem_replicate] at hx
       rcases hx with hx | hx
       ·have:=hall x hx;omega
       ·omega
      have ht:=rW (ri (tmA p i).1) (dF _ _ _) hb8
      rw [sE_pad hx8] at ht
      refine Ev3.step (fun k m1 m0=>aO.od k m1 m0 _ _ _ _ _ _ _ _ _ _) (Ev3.bF (decide_eq_false (by omega)) (Ev3.bind ht (Ev3.of ?_)))
      by_cases d1:sE (tmA p i).1>40
      ·rw [hf (fun h=>by have:=h.1.sum;omega)]
       exact Ev2.bind (a:=true) (bT (decide_eq_true d1) (evs _)) (Ev2.bT rfl (Ev2.of (evs _)))
      ·have h2:Ev (fun k=>(bif decide ((i:Int)>(0:Int)) then (bJ k (zT p i) (ri (tmA p i).1)).bind fun (v10:Bool)=>some (!v10) else some false)) (dc (¬ (0<i→dN (tmA p (i-1)).1 (tmA p i).1>0))):=by
        cases i with
        | zero =>
         rw [cW (fun h=>h (fun h'=>absurd h' (by omega)))]
         exact bF (decide_eq_false (by omega)) (evs _)
        | succ i0 =>
         have hpl:=hp (by omega)
         rw [Nat.add_sub_cancel] at hpl ⊢
         have hbf:=qi (ri (tmA p i0).1) (ri (tmA p (i0+1)).1) (dF _ _ _) (dF _ _ _)
         rw [cmpE_pad (by omega) (by omega)] at hbf
         have:(!decide (dN (tmA p i0).1 (tmA p (i0+1)).1>0))=dc (¬ (0<i0+1→dN (tmA p i0).1 (tmA p (i0+1)).1>0)):=dc_of (by
          rw [Bool.not_eq_true',decide_eq_false_iff_not]
          exact ⟨fun h h'=>h (h' (by omega)),fun h h'=>h (fun _=>h')⟩)
         rw [← this]
         exact bT (decide_eq_true (by omega)) (Ev.bind hbf (evs _))
       by_cases d2:(0<i→dN (tmA p (i-1)).1 (tmA p i).1>0)
       ·rw [cW (fun h=>h d2)] at h2
        refine Ev2.bind (a:=false) (bF (decide_eq_false d1) (Ev.bind h2 (evs _))) (Ev2.bF rfl ?_)
        rw [inc1 (by omega)]
        exact hr ⟨⟨c1,hall,by omega,hvn,c4⟩,d2⟩
       ·rw [fC d2] at h2
        rw [hf (fun h=>d2 h.2)]
        exact Ev2.bind (a:=true) (bF (decide_eq_false d1) (Ev.bind h2 (evs _))) (Ev2.bT rfl (Ev2.of (evs _)))
     ·intro j hj ih hg
      have e1:(rdT (t:=(.int .i64)) (tmA p i).1 (j:Int):Int)=(tmA p i).1[j]:=rZ hj
      refine Ev3.step (fun k m1 m0=>aO.od k m1 m0 _ _ _ _ _ _ _ _ _ _) (Ev3.bT (decide_eq_true (by omega)) (Ev3.iT (by omega) ?_))
      rw [e1]
      by_cases g1:0≤(tmA p i).1[j]∧(tmA p i).1[j]≤40
      ·refine Ev3.bind (a:=false) (bF (decide_eq_false (show ¬ (tmA p i).1[j]<0 by omega)) (yb (show ¬ (tmA p i).1[j]>40 by omega))) (Ev3.bF rfl (Ev3.iT (by omega) ?_))
       rw [stA_set (dF _ _ _) (by omega),pad_take hx8 hj,inc1 (by omega)]
       exact ih (fun j' h1 h2=>by
        by_cases c:j'=j
        ·subst c;exact g1
        ·exact hg j' h1 (by omega))
      ·rw [hf (fun h=>g1 (h.1.ex _ (List.getElem_mem hj)))]
       refine Ev3.bind (a:=true) ?_ (Ev3.bT rfl (Ev3.of (Ev2.of (evs _))))
       by_cases g2:(tmA p i).1[j]<0
       ·exact bT (decide_eq_true g2) (evs _)
       ·exact bF (decide_eq_false g2) (yq (show (tmA p i).1[j]>40 by omega))
   ·rw [cW c3] at hv
    rw [hf (fun h=>c3 ((uZ (by omega) harg.2).1 h.1.co).2)]
    exact Ev2.bind (a:=false) (bF b1 (Ev.bind hsh (evs _))) (Ev2.bind (a:=true) (bF rfl (Ev.bind hv (evs _))) (Ev2.bind (a:=true) (bT rfl (evs _)) (Ev2.bT rfl (Ev2.of (evs _)))))
  ·rw [decide_eq_false c2] at hsh
   rw [hf (fun h=>c2 (vn_len h.1.co))]
   exact Ev2.bind (a:=true) (bF b1 (Ev.bind hsh (evs _))) (Ev2.bind (a:=true) (bT rfl (evs _)) (Ev2.bind (a:=true) (bT rfl (evs _)) (Ev2.bT rfl (Ev2.of (evs _)))))
 ·have b1:((List.length (tmA p i).1:Int) != p.1)=true:=by simp [c1]
  rw [hf (fun h=>c1 h.1.len)]
  exact Ev2.bind (a:=true) (bT b1 (evs _)) (Ev2.bind (a:=true) (bT rfl (evs _)) (Ev2.bind (a:=true) (bT rfl (evs _)) (Ev2.bT rfl (Ev2.of (evs _)))))
theorem dE (ha:wF p):Ev (fun k=>aO k p) (dc (iy p)):=by
 have hlen:=ha.1
 by_cases c0:p.1<0
 ·rw [cW (fun h=>by have:=h.n0;omega)]
  exact Ev.step (fun k=>cS k p) (Ev.bind (a:=true) (bT (decide_eq_true c0) (evs _)) (Ev.bind (a:=true) (bT rfl (evs _)) (bT rfl (evs _))))
 by_cases c8:p.1>8
 ·rw [cW (fun h=>by have:=h.n8;omega)]
  exact Ev.step (fun k=>cS k p) (Ev.bind (a:=true) (bF (decide_eq_false c0) (yq c8)) (Ev.bind (a:=true) (bT rfl (evs _)) (bT rfl (evs _))))
 by_cases c4:p.2.1.length>4000
 ·rw [cW (fun h=>by have:=h.few;omega)]
  exact Ev.step (fun k=>cS k p) (Ev.bind (a:=false) (bF (decide_eq_false c0) (yb c8)) (Ev.bind (a:=true) (bF rfl (yq (by omega))) (bT rfl (evs _))))
 refine Ev.step (fun k=>cS k p) (Ev.bind (a:=false) (bF (decide_eq_false c0) (yb c8)) (Ev.bind (a:=false) (bF rfl (yb (by omega))) (bF rfl (Ev2.diag (g:=fun k m=>aO.l0 k m p.2.1 (p.2.1.length:Int) (0:Int) p (List.replicate 8 (0:Int))) ?_))))
 have main:=dnw (n:=p.2.1.length) (P:=fun i=>(∀ j,j<i→oL p j)→Ev2 (fun k m=>aO.l0 k m p.2.1 (p.2.1.length:Int) (i:Int) p (zT p i)) (dc (iy p))) ?_ ?_ 0 (Nat.zero_le _) (fun j h=>by omega)
 ·exact main
 ·intro hg
  rw [fC ⟨by omega,by omega,by omega,hg⟩]
  exact Ev2.step (fun k m=>aO.dj k m _ _ _ _ _) (Ev2.bF (decide_eq_false (by omega)) (Ev2.of (evs _)))
 ·intro i hi ih hg
  refine ze ha (by omega) hi (fun h0=>(hg (i-1) (by omega)).1.len) (fun h=>ih (fun j hj=>?_)) (fun h=>cW (fun hv=>h (hv.good i hi)))
  by_cases c:j=i
  ·rw [c];exact h
  ·exact hg j (by omega)
end
end Go.Proofs.YtfbgaddecbiimaaGreatDoor.Q
end
section
namespace Go.Proofs.YtfbgaddecbiimaaGreatDoor.Q
open Go.RowKit Go.Proofs.YtfbgaddecbiimaaGreatDoorW.PrintWords Go.Proofs.YtfbgaddecbiimaaGreatDoorW.PrintMore Go.Proofs.YtfbgaddecbiimaaGreatDoor.V Go.Proofs.YtfbgaddecbiimaaGreatDoor.E
open Go.Proofs.YtfbgaddecbiimaaGreatDoor.P (Dg Nm vl WW RR dC gI evs evk evb iz bf cZ cQ w64 u64)
set_option linter.unusedVariables false
theorem AH:Ev (fun k=>ef k) true:=⟨60,fun k hk=>jQ jK awake_at k hk⟩
abbrev sC:bG:=((0:Int),[],())
theorem fE:Ev (fun k=>bZ k sC) true:=Ev.step (fun k=>jc k _) (Ev.bind (a:=true) (bT rfl (evs _)) (evs _))
section
variable {p q:bG}
theorem sm (ha:wF p) (hb:wF q) (h:¬ (iy p∧iy q)):Ev (fun k=>ej k p q) 3:=by
 have h1:=dW ha
 have h2:=dW hb
 by_cases c:iy p
 ·rw [fC c] at h1
  rw [cW (fun d=>h ⟨c,d⟩)] at h2
  exact Ev.step (fun k=>jl k p q) (Ev.bind h1 (Ev.bind (a:=true) (bF rfl (Ev.bind h2 (evs _))) (bT rfl (evs _))))
 ·rw [cW c] at h1
  exact Ev.step (fun k=>jl k p q) (Ev.bind h1 (Ev.bind (a:=true) (bT rfl (evs _)) (bT rfl (evs _))))
theorem xE (ha:wF p) (hb:wF q) (h:iy p) (h':iy q) (hn:p.1≠q.1):Ev (fun k=>ej k p q) 1:=by
 have h1:=dW ha
 have h2:=dW hb
 rw [fC h] at h1
 rw [fC h'] at h2
 exact Ev.step (fun k=>jl k p q) (Ev.bind h1 (Ev.bind (a:=false) (bF rfl (Ev.bind h2 (evs _))) (bF rfl (bT (by simp [hn]) (evs _)))))
theorem uH {e:Int} (h:Ev (fun k=>ej k p q) e) (he:e≠0):Ev (fun k=>bR.j0 k e p q) true:=by
 have b1:(e != (0:Int))=true:=by simp [he]
 have b2:(e==(0:Int))=false:=by simp [he]
 have b3:(e==e)=true:=by simp
 have hA:Ev (fun k=>qx k p q) (sC,e,()):=Ev.step (fun k=>ue k p q) (Ev.bind h (bT b1 (evs _)))
 have hS:Ev (fun k=>qt k p q) (sC,e,()):=Ev.step (fun k=>uc k p q) (Ev.bind h (bT b1 (evs _)))
 have hM:Ev (fun k=>qu k p q) (sC,e,()):=Ev.step (fun k=>ud k p q) (Ev.bind h (bT b1 (evs _)))
 have hD:Ev (fun k=>fy k p q) (sC,e,()):=Ev.step (fun k=>oW k p q) (Ev.bind h (Ev.bind (a:=false) (bF b2 (evs _)) (bF rfl (bT b1 (evs _)))))
 have hU:Ev (fun k=>eF k p (99:Int) q) (sC,e,()):=Ev.step (fun k=>qp k p _ q) (Ev.bind h (bF b2 (bT b1 (evs _))))
 have hE:Ev (fun k=>lI k p q) (false,e,()):=Ev.step (fun k=>qv k p q) (Ev.bind h (bT b1 (evs _)))
 have t:Ev (fun _=>some (e==e)) true:=by rw [b3];exact evs _
 exact Ev.bind hA (Ev.bind hS (Ev.bind hM (Ev.bind hD (Ev.bind hU (Ev.bind hE (Ev.bind (bT b3 t) (Ev.bind (bT rfl t) (Ev.bind (bT rfl t) (Ev.bind (bT rfl t) (Ev.bind (bT rfl t)
  (Ev.bind (bT rfl (Ev.bind fE (evs _))) (Ev.bind (bT rfl (Ev.bind fE (evs _))) (Ev.bind (bT rfl (Ev.bind fE (evs _))) (Ev.bind (bT rfl (Ev.bind fE (evs _))) (Ev.bind (bT rfl (Ev.bind fE (evs _))) (evs _))))))))))))))))
theorem vS (ha:wF p):∃ t,Ev (fun k=>bB k p) t:=by
 have hlen:=ha.1
 have main:=dnw (n:=p.2.1.length) (P:=fun i=>∃ r,Ev2 (fun k m=>bB.l0 k m p.2.1 (p.2.1.length:Int) (i:Int)) r) ?_ ?_ 0 (Nat.zero_le _)
 ·obtain ⟨r,hr⟩:=main
  exact ⟨r,Ev.step (fun k=>jd k p) hr.diag⟩
 ·exact ⟨false,Ev2.step (fun k m=>bB.dj k m _ _ _) (Ev2.bF (decide_eq_false (by omega)) (Ev2.of (evs _)))⟩
 ·intro i hi ⟨r,hr⟩
  have hsh:Ev (fun k=>bY k (tmA p i).2.1 (3:Int)) _:=mc (tmA p i).2.1 3
  generalize decide ((tmA p i).2.1.2.1.length≤3∧(tmA p i).2.1.2.2.1.length≤3)=t at hsh
  cases t with
  | false=>exact ⟨true,Ev2.step (fun k m=>bB.dj k m _ _ _) (Ev2.bT (decide_eq_true (by omega)) (Ev2.iT (by omega) (Ev2.bind hsh (Ev2.bind (a:=true) (bT rfl (evs _)) (Ev2.bT rfl (Ev2.of (evs _)))))))⟩
  | true =>
   by_cases c:((tmA p i).1.length:Int)>12
   ·exact ⟨true,Ev2.step (fun k m=>bB.dj k m _ _ _) (Ev2.bT (decide_eq_true (by omega)) (Ev2.iT (by omega) (Ev2.bind hsh (Ev2.bind (a:=true) (bF rfl (yq c)) (Ev2.bT rfl (Ev2.of (evs _)))))))⟩
   ·refine ⟨r,Ev2.step (fun k m=>bB.dj k m _ _ _) (Ev2.bT (decide_eq_true (by omega)) (Ev2.iT (by omega) (Ev2.bind hsh (Ev2.bind (a:=false) (bF rfl (yb c)) (Ev2.bF rfl ?_)))))⟩
    rw [inc1 (by omega)]
    exact hr
end
abbrev three:gX:=(false,[3],[1],())
theorem int3_at:eU 60 3=some three:=by kernel_rfl
theorem to3_at:fB 60 three=some three:=by kernel_rfl
theorem int3_ev:Ev (fun k=>eU k 3) three:=⟨60,fun k hk=>jQ jK int3_at k hk⟩
theorem to3_ev:Ev (fun k=>fB k three) three:=⟨60,fun k hk=>jQ jK to3_at k hk⟩
theorem nine {n:Int} (h0:0≤n) (h8:n≤8):n=0∨n=1∨n=2∨n=3∨n=4∨n=5∨n=6∨n=7∨n=8:=by omega
theorem j4 {α:Type} {o:Option α} (h:o.isSome=true):∃ r,o=some r:=Option.isSome_iff_exists.1 h
theorem yf {n:Int} (h0:0≤n) (h8:n≤8):∃ r,Ev (fun k=>iq k n three) r:=by
 have key:∃ r,iq 60 n three=some r:=j4 (by
  rcases nine h0 h8 with rfl | rfl | rfl | rfl | rfl | rfl | rfl | rfl | rfl<;>kernel_rfl)
 obtain ⟨r,hr⟩:=key
 exact ⟨r,60,fun k hk=>jQ jK hr k hk⟩
theorem var0_tot {n:Int} (h0:1≤n) (h8:n≤8):∃ r,Ev (fun k=>kM k n 0) r:=by
 have key:∃ r,kM 60 n 0=some r:=j4 (by
  rcases nine (show 0≤n by omega) h8 with rfl | rfl | rfl | rfl | rfl | rfl | rfl | rfl | rfl
  ·omega
  all_goals kernel_rfl)
 obtain ⟨r,hr⟩:=key
 exact ⟨r,60,fun k hk=>jQ jK hr k hk⟩
theorem rat3_at:nG 60 three=some true:=by kernel_rfl
theorem rat3_ev:Ev (fun k=>nG k three) true:=⟨60,fun k hk=>jQ jK rat3_at k hk⟩
theorem pQ {n:Int} (h:n<0∨n>8):Ev (fun k=>iq k n three) (sC,1,()):=by
 refine Ev.step (fun k=>qw k _ _) (Ev.bind rat3_ev (bF rfl (Ev.bind (a:=true) ?_ (bT rfl (evs _)))))
 by_cases c:n<0
 ·exact bT (decide_eq_true c) (evs _)
 ·exact bF (decide_eq_false c) (yq (by omega))
theorem pZ {n:Int} (h:n<1∨n>8):Ev (fun k=>kM k n 0) (sC,1,()):=by
 refine Ev.step (fun k=>ub k _ _) ?_
 by_cases c:n<0
 ·exact Ev.bind (a:=true) (bT (decide_eq_true c) (evs _)) (Ev.bind (a:=true) (bT rfl (evs _)) (Ev.bind (a:=true) (bT rfl (evs _)) (bT rfl (evs _))))
 ·by_cases d:n>8
  ·exact Ev.bind (a:=true) (bF (decide_eq_false c) (yq d)) (Ev.bind (a:=true) (bT rfl (evs _)) (Ev.bind (a:=true) (bT rfl (evs _)) (bT rfl (evs _))))
  ·exact Ev.bind (a:=false) (bF (decide_eq_false c) (yb d)) (Ev.bind (a:=false) (bF rfl (evs _)) (Ev.bind (a:=true) (bF rfl (yq (by omega))) (bT rfl (evs _))))
set_option maxHeartbeats 1000000 in
theorem qJ {p q:bG} (n:Int) (ha:wF p) (hb:wF q):Ev (fun k=>bR k p q n) true:=by
 refine Ev.step (fun k=>gG k p q n) (Ev.bind AH (bF rfl ?_))
 obtain ⟨t1,l1⟩:=vS ha
 obtain ⟨t2,l2⟩:=vS hb
 have many:∀ t:Bool,Ev (fun k=>(bif decide ((List.length p.2.1:Int)>(30:Int)) then some true else some (decide ((List.length q.2.1:Int)>(30:Int))))) (decide ((List.length p.2.1:Int)>30)||decide ((List.length q.2.1:Int)>30)):=fun t=>by
  cases decide ((List.length p.2.1:Int)>30)<;>exact evs _
 refine Ev.bind (many true) ?_
 generalize (decide ((List.length p.2.1:Int)>30)||decide ((List.length q.2.1:Int)>30))=b2
 refine Ev.bind (a:=b2||t1) (by cases b2;exact bF rfl (Ev.bind l1 (evs _));exact bT rfl (evs _)) ?_
 refine Ev.bind (a:=(b2||t1)||t2) (by cases (b2||t1);exact bF rfl (Ev.bind l2 (evs _));exact bT rfl (evs _)) ?_
 cases hb6:((b2||t1)||t2) with
 | true=>exact bT rfl (evs _)
 | false =>
  refine bF rfl (Ev.bind (dW ha) (Ev.bind (dE ha) (Ev.bind (a:=false) (bF (by simp) (Ev.bind (dW hb) (Ev.bind (dE hb) (by rw [show (dc (iy q) != dc (iy q))=false by simp];exact evs _)))) (bF rfl (Ev.bind int3_ev (Ev.bind to3_ev ?_))))))
  have rest:Ev (fun k=>(aO k p).bind fun (v25:Bool) =>
   (bif !v25 then some true else (aO k q).bind fun (v26:Bool) =>
   some (!v26)).bind fun (b27:Bool) =>
   bif b27 then
    bR.j0 k (3:Int) p q
   else
    bif p.1 != q.1 then
     bR.j0 k (1:Int) p q
    else
     some true) true:=by
   by_cases c1:iy p
   ·by_cases c2:iy q
    ·have h1:=dE ha
     have h2:=dE hb
     rw [fC c1] at h1
     rw [fC c2] at h2
     refine Ev.bind h1 (Ev.bind (a:=false) (bF rfl (Ev.bind h2 (evs _))) (bF rfl ?_))
     by_cases c3:p.1=q.1
     ·exact bF (by simp [c3]) (evs _)
     ·exact bT (by simp [c3]) (uH (xE ha hb c1 c2 c3) (by omega))
    ·have h1:=dE ha
     have h2:=dE hb
     rw [fC c1] at h1
     rw [cW c2] at h2
     exact Ev.bind h1 (Ev.bind (a:=true) (bF rfl (Ev.bind h2 (evs _))) (bT rfl (uH (sm ha hb (fun h=>c2 h.2)) (by omega))))
   ·have h1:=dE ha
    rw [cW c1] at h1
    exact Ev.bind h1 (Ev.bind (a:=true) (bT rfl (evs _)) (bT rfl (uH (sm ha hb (fun h=>c1 h.1)) (by omega))))
  by_cases d1:n<0
  ·refine Ev.bind (pQ (.inl d1)) (Ev.bind (pZ (.inl (by omega))) (Ev.bind (a:=true) (bT (decide_eq_true d1) (evs _)) (Ev.bind (a:=false) (bT rfl (Ev.bind (a:=false) (bF rfl (Ev.bind fE (evs _))) (evs _))) (Ev.bind (a:=false) (bF rfl (Ev.bind (a:=true) (bT (decide_eq_true (by omega)) (evs _)) (Ev.bind (a:=false) (bT rfl (Ev.bind (a:=false) (bF rfl (Ev.bind fE (evs _))) (evs _))) (evs _)))) (bF rfl rest)))))
  by_cases d2:n>8
  ·refine Ev.bind (pQ (.inr d2)) (Ev.bind (pZ (.inr d2)) (Ev.bind (a:=true) (bF (decide_eq_false d1) (yq d2)) (Ev.bind (a:=false) (bT rfl (Ev.bind (a:=false) (bF rfl (Ev.bind fE (evs _))) (evs _))) (Ev.bind (a:=false) (bF rfl (Ev.bind (a:=true) (bF (decide_eq_false (by omega)) (yq d2)) (Ev.bind (a:=false) (bT rfl (Ev.bind (a:=false) (bF rfl (Ev.bind fE (evs _))) (evs _))) (evs _)))) (bF rfl rest)))))
  obtain ⟨rc,hrc⟩:=yf (show 0≤n by omega) (show n≤8 by omega)
  by_cases d3:n<1
  ·exact Ev.bind hrc (Ev.bind (pZ (.inl d3)) (Ev.bind (a:=false) (bF (decide_eq_false d1) (yb d2)) (Ev.bind (a:=false) (bF rfl (evs _)) (Ev.bind (a:=false) (bF rfl (Ev.bind (a:=true) (bT (decide_eq_true d3) (evs _)) (Ev.bind (a:=false) (bT rfl (Ev.bind (a:=false) (bF rfl (Ev.bind fE (evs _))) (evs _))) (evs _)))) (bF rfl rest)))))
  ·obtain ⟨rv,hrv⟩:=var0_tot (show 1≤n by omega) (show n≤8 by omega)
   exact Ev.bind hrc (Ev.bind hrv (Ev.bind (a:=false) (bF (decide_eq_false d1) (yb d2)) (Ev.bind (a:=false) (bF rfl (evs _)) (Ev.bind (a:=false) (bF rfl (Ev.bind (a:=false) (bF (decide_eq_false d3) (yb d2)) (Ev.bind (a:=false) (bF rfl (evs _)) (evs _)))) (bF rfl rest)))))
end Go.Proofs.YtfbgaddecbiimaaGreatDoor.Q
end
section
namespace Go.Proofs.YtfbgaddecbiimaaGreatDoor.Q
open Go.RowKit Go.Proofs.YtfbgaddecbiimaaGreatDoorW.PrintWords Go.Proofs.YtfbgaddecbiimaaGreatDoorW.PrintMore Go.Proofs.YtfbgaddecbiimaaGreatDoor.V Go.Proofs.YtfbgaddecbiimaaGreatDoor.E
set_option linter.unusedVariables false
theorem wB {y:bG} (h:Fine ai y):wF y:=by
 obtain ⟨_,⟨h1,h2⟩,_⟩:=h
 exact ⟨h1,fun t ht=>⟨(h2 t ht).1.1,arg_rat (h2 t ht).2.1⟩⟩
end Go.Proofs.YtfbgaddecbiimaaGreatDoor.Q
end
section
namespace Go.Proofs.YtfbgaddecbiimaaGreatDoor.polyForms
open Go.ChangeShapes Go.WideShapes Go.ChangeAt Go.RowKit
open Go.ChangeMaps (open_string shut_string)
open Go.Proofs.YtfbgaddecbiimaaGreatDoor.V Go.Proofs.YtfbgaddecbiimaaGreatDoor.E
theorem own:ownKnob Tryz.prog.godebug=none:=by kernel_rfl
theorem laidOut:laidOutB Tryz.prog=true:=by kernel_rfl
def yD:DataW Unit→Array Value
 | .agg l=>(l.map fun d=>match d with
  | .lit (.int k n)=>Value.int k n
  | _=>undef).toArray
 | _=>#[]
noncomputable def sK (os:Os):World :=
 let w0:=World.holding Tryz.prog os ⟨#[],#[],[]⟩
 { w0 with heap:=((w0.heap.modify 2 fun
  | .cells _ t frozen=>.cells (yD Rows.laid_math_bits_deBruijn32tab) t frozen
  | o=>o).modify 3 fun
  | .cells _ t frozen=>.cells (yD Rows.laid_math_bits_deBruijn64tab) t frozen
  | o=>o).modify 0 fun
  | .cells _ t frozen=>.cells (yD Rows.laid_internal_strconv_uint64pow10) t frozen
  | o=>o }
theorem laid_met (os:Os) (args:Array Value):laidMet Tryz.prog Rows.polyFormsRow.laid ((sK os).forCall (fun _ _=>0) ⟨#[],args,[]⟩).memory :=
 laidMet_of_run' 8 (by kernel_rfl) (by kernel_rfl)
set_option maxRecDepth 100000 in
theorem lifted (os:Os) (started:os.Started) (H:Type) (enc:TypeId×Value→H) :
 ReturnsInHanded {} Tryz.checked os 11 .any (fun w args=>(Rows.polyFormsSpec.pre enc Tryz.prog Tryz.f11 Rows.polyFormsRow.domain false w args∧laidMet Tryz.prog Rows.polyFormsRow.laid w)∧sizedMet enc Tryz.prog Tryz.f11 (OpenSpec.ofChange Rows.polyFormsSpec) false w args)
  (Rows.polyFormsSpec.post enc Tryz.prog Tryz.f11 false true false false):=by
 refine returnsInHanded_of_change_and (C:=Tryz.checked) (X:=fun w _=>laidMet Tryz.prog Rows.polyFormsRow.laid w) (fun _ _ _ hh h=>h.of_heap hh) own started (by kernel_rfl) Tryz.func11
  (ChangeSpec.witness_at (enc:=enc) (C:=Tryz.checked) (os:=os) (X:=fun w _=>laidMet Tryz.prog Rows.polyFormsRow.laid w) false (sK os) #[.agg #[.int .i64 0,.slice none 0 0],.agg #[.int .i64 0,.slice none 0 0],.int .i64 0] 8 rfl (by kernel_rfl) (by kernel_rfl) (by kernel_rfl) (by kernel_rfl) (by kernel_rfl) (laid_met os _)) ?_
 intro W base args ds gs before hval0 hW _ hsz0 hL _
 have hval:∀ (j:Nat) t v,Tryz.f11.params[j]?=some t→args[j]?=some v→Value.okWide Tryz.prog W .any base t v:=hval0
 have hW':=hW
 obtain ⟨p,q,hA0,hV,rfl,hfz,hnd⟩:=hW
 have hA:DataW.TrodAll enc Tryz.prog W 0 (fun _=>true) true Tryz.f11.params.toList args.toList ds p:=hA0
 rw [Tryz.params11] at hA hval
 obtain ⟨v0,vs0,d0,ds0,p0,q0,hargs,rfl,rfl,h0,r0⟩:=trodAll_cons hA
 obtain ⟨v1,vs1,d1,ds1,p1,q1,rfl,rfl,rfl,h1,r1⟩:=trodAll_cons r0
 obtain ⟨v2,vs2,d2,ds2,p2,q2,rfl,rfl,rfl,h2,r2⟩:=trodAll_cons r1
 obtain ⟨rfl,rfl,rfl⟩:=trodAll_nil r2
 obtain rfl:args = #[v0,v1,v2]:=by cases args;simp_all
 obtain ⟨rfl,rfl⟩:=trodVars_none hV
 have k0:=h0
 have lt0:∀ x∈p0,x.block<W.heap.size:=by obtain ⟨m,hm⟩:=k0;exact DataW.trod_lt m _ _ _ hm
 obtain ⟨y0,f0,g0⟩:=uR Q.vf (n:=16) (t:=24) (c:=ai) (by kernel_rfl) (by kernel_rfl) (hval 0 24 v0 rfl rfl) h0
 have k1:=h1
 have lt1:∀ x∈p1,x.block<W.heap.size:=by obtain ⟨m,hm⟩:=k1;exact DataW.trod_lt m _ _ _ hm
 obtain ⟨y1,f1,g1⟩:=uR Q.vf (n:=16) (t:=24) (c:=ai) (by kernel_rfl) (by kernel_rfl) (hval 1 24 v1 rfl rfl) h1
 have k2:=h2
 have lt2:∀ x∈p2,x.block<W.heap.size:=by obtain ⟨m,hm⟩:=k2;exact DataW.trod_lt m _ _ _ hm
 obtain ⟨y2,f2,g2⟩:=uR Q.vf (n:=16) (t:=3) (c:=(.int .i64)) (by kernel_rfl) (by kernel_rfl) (hval 2 3 v2 rfl rfl) h2
 clear hA0 hval0 hsz0
 obtain ⟨k,hk⟩:=(Q.qJ y2 (Q.wB f0) (Q.wB f1)).rounds
 obtain ⟨_,pv,hp,hF⟩:=(we Q.vf orc_ok Q.mixed Q.noGo k).fn 11 [.v ai y0,.v ai y1,.v (.int .i64) y2] true rfl hk
 obtain rfl:=Option.some.inj hp
 refine (hF (fun b=>b<W.heap.size) W #[v0,v1,v2] (fun b h=>h) rfl (fun i h=>?_)).mono fun e W' ⟨v,he,bel,hv⟩=>?_
 ·match i,h with
  | 0,h=>exact g0
  | 1,h=>exact g1
  | 2,h=>exact g2
  | i+3,h=>exact absurd h (by simp only [List.length_map,List.length_cons,List.length_nil];omega)
 ·have hb:=eK hv
  subst hb
  subst he
  exact ⟨_,rfl,_,_,_,[],_,[],hW',trodAll_mk1 (shut_bool Tryz.underlying4 _),(trodAll_cons_mk (Below.trod laidOut (by kernel_rfl) (of_decide_eq_true (by kernel_rfl)) k0 bel lt0) (trodAll_cons_mk (Below.trod laidOut (by kernel_rfl) (of_decide_eq_true (by kernel_rfl)) k1 bel lt1) (trodAll_cons_mk (Below.trod laidOut (by kernel_rfl) (of_decide_eq_true (by kernel_rfl)) k2 bel lt2) trodAll_mk0))),rfl,bel.frame _,fun h=>by cases h⟩
theorem over:Rows.polyFormsRow.holds Tryz.pinned (OpenSpec.ofChange Rows.polyFormsSpec) :=
 OpenClaim.holds_of_wide 11 Tryz.f11 rfl rfl rfl rfl rfl rfl rfl ⟨rfl,rfl,rfl,rfl,rfl⟩ rfl rfl rfl rfl rfl (by kernel_rfl) Tryz.func11 (by kernel_rfl)
  (of_decide_eq_true (by kernel_rfl)) (by unfold Func.isWrapper;first | (rw [if_pos (by decide +kernel)];kernel_rfl) | (rw [if_neg (by decide +kernel)];exact ⟨rfl,rfl⟩))
  (fun os started H enc _=>lifted os started H enc)
theorem proved:Rows.PolyFormsCardSaid :=
 Claim7.holds_tied_plain_at .later [] [.data,.data,.data] true (true,"7c1c4094e72754773423f799c4afd1ed3b246fc2b5dc0deefca3ede80156512f") false
  over (fun _ h=>by cases h) (by kernel_rfl) (fun _ h=>by cases h) polyForms_row_tie rfl ⟨rfl,rfl⟩ (by kernel_rfl) rfl
  (fun f fn hf hfn=>by
   obtain rfl:f=11:=Option.some.inj ((show Tryz.prog.funcNamed "isochrone/isochronelaw03.PolyForms" = some 11 by kernel_rfl).symm.trans hf) |>.symm
   obtain rfl:fn=Tryz.f11:=(Option.some.inj (Tryz.func11.symm.trans hfn)).symm
   exact ⟨by kernel_rfl,fun j t ht=>by
    rw [Tryz.params11] at ht
    have ht2:t=24∨t=3:=by
     match j,ht with
     | 0,ht=>simp at ht;subst ht;simp
     | 1,ht=>simp at ht;subst ht;simp
     | 2,ht=>simp at ht;subst ht;simp
     | j+3,ht=>simp at ht
    rcases ht2 with rfl | rfl
    ·exact (show Tryz.prog.wantsStandIn 24=false by kernel_rfl)
    ·exact (show Tryz.prog.wantsStandIn 3=false by kernel_rfl)⟩)
  (by kernel_rfl)
#print axioms proved
end Go.Proofs.YtfbgaddecbiimaaGreatDoor.polyForms
namespace Go.Proofs.YtfbgaddecbiimaaGreatDoor
theorem polyForms_holds:Rows.PolyFormsCardSaid:=polyForms.proved
end Go.Proofs.YtfbgaddecbiimaaGreatDoor
end
