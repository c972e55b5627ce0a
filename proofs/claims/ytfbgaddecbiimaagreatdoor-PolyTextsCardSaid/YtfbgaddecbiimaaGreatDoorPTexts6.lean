/- PolyTexts: poly.Text and the reference's text put together alike; the tied card by the given tie (the last of 6 texts). No condition beyond the statement's own. -/
import Derived.Lib.Bytes
import Derived.SizedLaws
import Derived.ChangeSlices
import Derived.Test.YtfbgaddecbiimaaGreatDoorRows
import Derived.Test.YtfbgaddecbiimaaGreatDoorCards
import Derived.Test.YtfbgaddecbiimaaGreatDoorTie
import Derived.WalkKit
import Derived.ProofKit
import Derived.OpenShut
import Derived.ShutString
import Derived.ChangeOld
import Derived.ChangeSame
import Derived.ChangeVars
import Derived.JoinedOf
import Derived.LaidLaws
import Derived.SevenTiedAt
import Derived.Below
import Derived.KernelRfl
import Derived.Test.YtfbgaddecbiimaaGreatDoorPTexts5
set_option linter.unusedSimpArgs false
set_option linter.unusedSectionVars false
section
namespace Go.Proofs.YtfbgaddecbiimaaGreatDoor.P
open Go.RowKit Go.Proofs.YtfbgaddecbiimaaGreatDoorW.PrintWords Go.Proofs.YtfbgaddecbiimaaGreatDoorW.PrintLast Go.Proofs.YtfbgaddecbiimaaGreatDoorW.PrintMore
set_option linter.unusedVariables false
theorem cpy_zero {t:List Int} {n:Nat} (h:t.length≤n) (dt:Dg WW t):(cpy (List.replicate n 0) t).length=n∧Dg WW (cpy (List.replicate n 0) t)∧vl WW (cpy (List.replicate n 0) t)=vl WW t:=by
 have e:cpy (List.replicate n 0) t=t++List.replicate (n-t.length) 0:=by
  unfold cpy
  rw [List.length_replicate,Nat.min_eq_left h,List.take_length,List.drop_replicate]
 rw [e]
 refine ⟨by simp;omega,dt.append (Dg.rep aW _),?_⟩
 rw [fS,ze,Int.mul_zero,Int.add_zero]
theorem two_le31 {s:Nat} (h:s≤31):(2:Int) ^ s≤2147483648:=by
 have h2:(2:Int) ^ s≤2 ^ 31:=by
  have:2 ^ s≤2 ^ 31:=Nat.pow_le_pow_right (by decide) h
  exact_mod_cast this
 exact Int.le_trans h2 (by decide)
theorem normed {b:List Int} {m:Int} {L:Nat} (hb:Can WW b m) (hp:0<b.length) (h1:rd b ((b.length:Int)-1)<2 ^ L) (h2:2 ^ (L-1)≤rd b ((b.length:Int)-1)) (hL:1≤L) (hL2:L≤32) :
 m*2 ^ (32-L)<WW ^ b.length∧2147483648*WW ^ (b.length-1)≤m*2 ^ (32-L):=by
 have lv:=l9 (a:=b) hp
 rw [hb.2.2] at lv
 have hd:=hb.1.take (b.length-1)
 have l0:=bX aW hd
 have l1:=iq aW hd
 rw [List.length_take,Nat.min_eq_left (by omega)] at l1
 have hP:(0:Int)<WW ^ (b.length-1):=fO aW _
 have hs:=two_pos (32-L)
 have e1:WW ^ b.length=(2 ^ L*WW ^ (b.length-1))*2 ^ (32-L):=by
  have:b.length=(b.length-1)+1:=by omega
  rw [this,Int.pow_succ,Nat.add_sub_cancel,Int.mul_comm (2 ^ L),Int.mul_assoc,← Int.pow_add,show L+(32-L)=32 by omega];rfl
 have e2:2147483648*WW ^ (b.length-1)=(2 ^ (L-1)*WW ^ (b.length-1))*2 ^ (32-L):=by
  rw [Int.mul_comm (2 ^ (L-1)),Int.mul_assoc,← Int.pow_add,show L-1+(32-L)=31 by omega,Int.mul_comm];rfl
 generalize rd b ((b.length:Int)-1)=x at *
 have m1:(x+1)*WW ^ (b.length-1)≤2 ^ L*WW ^ (b.length-1):=Int.mul_le_mul_of_nonneg_right (by omega) (by omega)
 have m2:2 ^ (L-1)*WW ^ (b.length-1)≤x*WW ^ (b.length-1):=Int.mul_le_mul_of_nonneg_right h2 (by omega)
 rw [Int.add_mul] at m1
 rw [e1,e2]
 exact ⟨Int.mul_lt_mul_of_pos_right (by omega) hs,Int.mul_le_mul_of_nonneg_right (by omega) (by omega)⟩
theorem iN {a b:List Int} {n m:Int} (hn:a.length<17179869184) (ha:Can WW a n) (hb:Can WW b m) (hm:0<m) :
 ∃ q r,Ev (fun k=>aC.f k a b) (q,r)∧Can WW q (n / m)∧Can WW r (n % m):=by
 have n0:=ha.fG aW
 have lb:0<b.length:=by
  rcases Nat.eq_zero_or_pos b.length with c | c
  ·have:=(hb.eN aW).1 c
   omega
  ·exact c
 have hc:=qh (by omega) ha hb
 by_cases c1:n<m
 ·have e:ij n m = -1:=by unfold ij;rw [if_pos c1]
  rw [e] at hc
  refine ⟨[],a,?_,?_,?_⟩
  ·unfold aC.f
   refine Ev.bind hc (evp (by omega) (evp (by simp;omega) ?_))
   exact evs _
  ·rw [Int.ediv_eq_zero_of_lt n0 c1];exact Can.zero _
  ·rw [Int.emod_eq_of_lt n0 c1];exact ha
 ·have hcm:¬ ij n m<0:=by unfold ij;rw [if_neg c1];split<;>omega
  have hba:b.length≤a.length:=gC ha hb (by omega)
  have bx:=dH hb.1 ((b.length:Int)-1) (by omega) (by omega)
  have bz:=hb.2.1.rd lb
  rw [cU] at bx
  by_cases c2:b.length=1
  ·have e1:m=rd b 0:=by
    have:=l9 (a:=b) lb
    rw [hb.2.2,c2] at this
    simpa [vl] using this
   rw [c2] at bx
   have bx':0≤m∧m<4294967296:=by rw [e1];exact bx
   obtain ⟨q,q1,q2,q3⟩:=pN (by omega) ha (K:=m) ⟨by omega,bx'.2⟩
   have r0:=Int.emod_nonneg n (show m≠0 by omega)
   have r1:=Int.emod_lt_of_pos n hm
   obtain ⟨r,r2,r3⟩:=eL (a:=n % m) r0 (by omega)
   refine ⟨q,r,?_,q2,r3⟩
   unfold aC.f
   refine Ev.bind hc (evn hcm (evp (by omega) (evp (by omega) ?_)))
   rw [← e1]
   refine Ev.bind q1 ?_
   rw [u64 (x:=n % m) (by omega) (by omega)]
   exact Ev.bind r2 (evs _)
  ·obtain ⟨L,z1,z2,z3,z4⟩:=Av bx.1 bx.2
   obtain ⟨z5,z6⟩:=z4 bz
   obtain ⟨M1,M2⟩:=normed hb lb z3 z5 z6 z2
   have hs:=two_pos (32-L)
   have hs31:=two_le31 (s:=32-L) (by omega)
   obtain ⟨v,v1,v2,v3⟩:=qg (32-L) (by omega) hb
   obtain ⟨t,t1,t2,t3⟩:=qg (32-L) (by omega) ha
   have hvl:v.length=b.length:=by
    have h1:=v2.gP cR M1
    have h2:WW ^ (b.length-1)≤m*2 ^ (32-L):=by
     have:(0:Int)<WW ^ (b.length-1):=fO aW _
     omega
    have h3:=v2.len_ge cR h2
    omega
   have htop:2147483648≤rd v ((b.length-1:Nat):Int):=by
    have lv:=l9 (a:=v) (by omega)
    rw [v2.2.2,hvl,show (b.length:Int)-1=((b.length-1:Nat):Int) by omega] at lv
    have hd:=v2.1.take (b.length-1)
    have l1:=iq aW hd
    rw [List.length_take,Nat.min_eq_left (by omega)] at l1
    have hP:(0:Int)<WW ^ (b.length-1):=fO aW _
    have h3:2147483648*WW ^ (b.length-1)<(rd v ((b.length-1:Nat):Int)+1)*WW ^ (b.length-1):=by
     rw [Int.add_mul];omega
    have:=l8 h3 hP
    omega
   obtain ⟨u1,u2,u3⟩:=cpy_zero (t:=t) (n:=a.length+1) (by omega) t2.1
   generalize hu:cpy (List.replicate (a.length+1) 0) t=u at *
   rw [t2.2.2] at u3
   have htl:=dH v2.1 ((b.length-1:Nat):Int) (by omega) (by omega)
   have hnl:=dH v2.1 ((b.length-2:Nat):Int) (by omega) (by omega)
   rw [cU] at htl hnl
   have hlow:vl WW (u.drop (a.length+1-b.length))<m*2 ^ (32-L):=by
    rcases Int.lt_or_le (vl WW (u.drop (a.length+1-b.length))) (m*2 ^ (32-L)) with c | c
    ·exact c
    ·exfalso
     have hd:=fK WW u (a.length+1-b.length) (by omega)
     rw [u3] at hd
     have l0:=bX aW (u2.take (a.length+1-b.length))
     have hPi:(0:Int)<WW ^ (a.length+1-b.length):=fO aW _
     have a1:WW ^ (a.length+1-b.length)*(2147483648*WW ^ (b.length-1))≤WW ^ (a.length+1-b.length)*vl WW (u.drop (a.length+1-b.length)):=Int.mul_le_mul_of_nonneg_left (by omega) (by omega)
     have a2:WW ^ (a.length+1-b.length)*(2147483648*WW ^ (b.length-1))=2147483648*WW ^ a.length:=by
      rw [Int.mul_left_comm,← Int.pow_add,show a.length+1-b.length+(b.length-1)=a.length by omega]
     have a3:n*2 ^ (32-L)<WW ^ a.length*2 ^ (32-L):=Int.mul_lt_mul_of_pos_right (ha.lt aW) hs
     have hPa:(0:Int)<WW ^ a.length:=fO aW _
     have a4:WW ^ a.length*2 ^ (32-L)≤WW ^ a.length*2147483648:=Int.mul_le_mul_of_nonneg_left hs31 (by omega)
     omega
   obtain ⟨q,r,r1,r2,r3⟩:=dm_l0 (s:=32-L) (nn:=b.length) (v:=v) (N:=n*2 ^ (32-L)) (by omega) (by omega) hvl v2.1 v2.2.2 rfl rfl htop (a.length+1-b.length) (a.length+1-b.length) (List.replicate (a.length+1-b.length) 0) u rfl (by omega) (by omega) (by rw [List.length_replicate,u1]) u2
    (by rw [List.drop_eq_nil_of_le (by simp)];exact Dg.nil _) hlow (by rw [List.drop_eq_nil_of_le (by simp),vl,Int.mul_zero,Int.mul_zero,Int.add_zero];exact u3)
   rw [Int.mul_ediv_mul_of_pos_left _ _ hs] at r2
   rw [Int.mul_comm n,Int.mul_comm m,Int.mul_emod_mul_of_pos _ _ hs,Int.mul_ediv_cancel_left _ (by omega)] at r3
   refine ⟨q,r,?_,r2,r3⟩
   unfold aC.f
   refine Ev.bind hc (evn hcm (evn (by omega) ?_))
   rw [w64 (x:=(b.length:Int)-1) (by omega) (by omega),w64 (x:=(a.length:Int)+1) (by omega) (by omega)]
   refine evp (by omega) (evp (by omega) (evb z1 (Ev.bind v1 (evp (by omega) (evp (by omega) (evb rfl (Ev.bind t1 ?_)))))))
   rw [show ((a.length:Int)+1).toNat=a.length+1 by omega,hu,List.length_replicate,hvl,show ((a.length+1:Nat):Int)-(b.length:Int)=((a.length+1-b.length:Nat):Int) by omega,w64 (x:=((a.length+1-b.length:Nat):Int)) (by omega) (by omega),w64 (x:=((a.length+1-b.length:Nat):Int)-1) (by omega) (by omega),show (b.length:Int)-1=((b.length-1:Nat):Int) by omega,show (b.length:Int)-2=((b.length-2:Nat):Int) by omega,w64 (x:=((b.length-1:Nat):Int)) (by omega) (by omega),w64 (x:=((b.length-2:Nat):Int)) (by omega) (by omega),u64 (x:=rd v ((b.length-1:Nat):Int)) (by omega) (by omega),u64 (x:=rd v ((b.length-2:Nat):Int)) (by omega) (by omega),Int.toNat_natCast]
   exact evp (by omega) (evp (by omega) (evp (by omega) (evp (by omega) (evp (by omega) (evp (by omega) r1)))))
end Go.Proofs.YtfbgaddecbiimaaGreatDoor.P
end
section
namespace Go.Proofs.YtfbgaddecbiimaaGreatDoor.P
open Go.RowKit Go.Proofs.YtfbgaddecbiimaaGreatDoorW.PrintWords Go.Proofs.YtfbgaddecbiimaaGreatDoorW.PrintLast Go.Proofs.YtfbgaddecbiimaaGreatDoorW.PrintMore
set_option linter.unusedVariables false
theorem dg_wf {l:List Int} (h:∀ x∈l,(Lit.int .u32 x).wf=true):Dg WW l:=by
 intro x hx
 have h1:=h x hx
 have h2:IntKind.u32.min=0:=rfl
 have h3:IntKind.u32.max=4294967295:=rfl
 simp only [Lit.wf,Bool.and_eq_true,decide_eq_true_eq,h2,h3] at h1
 rw [cU]
 omega
end Go.Proofs.YtfbgaddecbiimaaGreatDoor.P
end
section
namespace Go.Proofs.YtfbgaddecbiimaaGreatDoor.P
open Go.RowKit Go.Proofs.YtfbgaddecbiimaaGreatDoorW.PrintWords Go.Proofs.YtfbgaddecbiimaaGreatDoorW.PrintLast Go.Proofs.YtfbgaddecbiimaaGreatDoorW.PrintMore
set_option linter.unusedVariables false
theorem Ap {a:List Int} (hl:a.length≤4096) (hn:Nm a):eI.f a=some true:=by
 obtain ⟨p,_,h1,h2⟩:=vK a (by omega)
 rw [h1,h2.2 ⟨hl,hn⟩]
end Go.Proofs.YtfbgaddecbiimaaGreatDoor.P
end
section
namespace Go.Proofs.YtfbgaddecbiimaaGreatDoor.P
open Go.RowKit Go.Proofs.YtfbgaddecbiimaaGreatDoorW.PrintWords Go.Proofs.YtfbgaddecbiimaaGreatDoorW.PrintLast Go.Proofs.YtfbgaddecbiimaaGreatDoorW.PrintMore
set_option linter.unusedVariables false
theorem uF {a:List Int} (hl:a.length≤4) (ha:Dg RR a) (d:Nat):∀ (i:Nat) (x:Int),i=d→i≤a.length→x=vl RR (a.drop i)→Ev (fun k=>au.l0 k a x ((i:Int)-1)) (vl RR a,true):=by
 have bd:∀ i:Nat,i≤a.length→0≤vl RR (a.drop i)∧vl RR (a.drop i)<10000000000000000:=by
  intro i hi
  have h1:=iq cP (ha.drop i)
  have h2:=eT (B:=RR) (by decide) (show (a.drop i).length≤4 by rw [List.length_drop];omega)
  have h3:RR ^ 4=10000000000000000:=by decide
  exact ⟨bX cP (ha.drop i),by omega⟩
 induction d with
 | zero =>
  rintro i x rfl h1 h2
  rw [List.drop_zero] at h2
  subst h2
  refine Ev.step (fun k=>by rw [au.l0]) ?_
  exact evn (by omega) (evs _)
 | succ d ih =>
  rintro i x rfl h1 h2
  have hx:=dH ha (d:Int) (by omega) (by omega)
  rw [eG] at hx
  have b1:=bd (d+1) (by omega)
  have b0:=bd d (by omega)
  have e:x*10000+rd a (d:Int)=vl RR (a.drop d):=by
   rw [h2,dS a d (by omega),vl,eG];omega
  have next:=ih d (x*10000+rd a (d:Int)) rfl (by omega) e
  refine Ev.step (fun k=>by rw [au.l0]) ?_
  rw [show (((d+1:Nat):Int)-1)=(d:Int) by omega,w64 (x:=x*10000) (by omega) (by omega),w64 (x:=x*10000+rd a (d:Int)) (by omega) (by omega),w64 (x:=(d:Int)-1) (by omega) (by omega)]
  exact evp (by omega) (evp (by omega) (evp (by omega) next))
theorem iI {a:List Int} {n:Int} (hl:a.length<4611686018427387904) (ha:Can RR a n):(a.length≤4→Ev (fun k=>au.f k a) (n,true))∧(4<a.length→Ev (fun k=>au.f k a) (0,false)):=by
 constructor
 ·intro h
  have:=uF h ha.1 a.length a.length 0 rfl (Nat.le_refl _) (by rw [List.drop_length];rfl)
  rw [ha.2.2] at this
  unfold au.f
  rw [w64 (x:=(a.length:Int)-1) (by omega) (by omega)]
  exact evn (by omega) this
 ·intro h
  unfold au.f
  exact evp (by omega) (evs _)
theorem xf {r b:List Int} {x m:Int} (hr:r.length<34359738368) (hb:b.length<34359738368) (cr:Can RR r x) (cb:Can RR b m) (hm:0<m) (hx:x<m*10000) (c:Nat):∀ q:Int,(10000-q).toNat≤c→0≤q→q≤9999→m*q≤x→Ev (fun k=>af.l3 k r b q) (x / m):=by
 have fin:∀ q:Int,0≤q→m*q≤x→x<m*(q+1)→x / m=q:=by
  intro q h0 h1 h2
  have d1:=Int.mul_ediv_add_emod x m
  have d2:=Int.emod_nonneg x (show m≠0 by omega)
  have d3:=Int.emod_lt_of_pos x hm
  have l1:m*q<m*(x / m+1):=by rw [Int.mul_add];omega
  have l2:m*(x / m)<m*(q+1):=by omega
  have l3:=Int.lt_of_mul_lt_mul_left l1 (Int.le_of_lt hm)
  have l4:=Int.lt_of_mul_lt_mul_left l2 (Int.le_of_lt hm)
  omega
 induction c with
 | zero=>intro q h1 h2 h3 h4;omega
 | succ c ih =>
  intro q h1 h2 h3 h4
  refine Ev.step (fun k=>by rw [af.l3]) ?_
  rw [w64 (x:=q+1) (by omega) (by omega)]
  by_cases c1:q+1<10000
  ·obtain ⟨s,s1,s2,s3⟩:=gB (k0:=q+1) (c0:=0) (by omega) cb ⟨by omega,by omega⟩ ⟨by omega,by omega⟩
   rw [Int.add_zero] at s2
   have k1:=cO (by omega) s2 cr
   by_cases c2:m*(q+1)≤x
   ·refine evp c1 (Ev.bind s1 (Ev.bind k1 (evp ?_ (ih (q+1) (by omega) (by omega) (by omega) c2))))
    unfold ij;split<;>(try split)<;>omega
   ·rw [fin q h2 h4 (by omega)]
    refine evp c1 (Ev.bind s1 (Ev.bind k1 (evn ?_ (evs _))))
    unfold ij;rw [if_neg (by omega),if_neg (by omega)];omega
  ·have e:q=9999:=by omega
   subst e
   rw [fin 9999 h2 h4 (by omega)]
   exact evn c1 (evs _)
theorem digit_l2 {r b:List Int} {x m:Int} (hr:r.length<34359738368) (hb:b.length<34359738368) (cr:Can RR r x) (cb:Can RR b m) (hm:0<m) (hx:x<m*10000) (c:Nat):∀ q:Int,q.toNat≤c→0≤q→q≤9999→Ev (fun k=>af.l2 k r b q) (x / m):=by
 have x0:=cr.fG cP
 induction c with
 | zero =>
  intro q h1 h2 h3
  have e:q=0:=by omega
  subst e
  obtain ⟨s,s1,s2,s3⟩:=gB (k0:=0) (c0:=0) (by omega) cb ⟨by omega,by omega⟩ ⟨by omega,by omega⟩
  rw [Int.add_zero,Int.mul_zero] at s2
  have k1:=cO (by omega) s2 cr
  refine Ev.step (fun k=>by rw [af.l2]) ?_
  refine Ev.bind s1 (Ev.bind k1 (evn ?_ (xf hr hb cr cb hm hx _ 0 (Nat.le_refl _) (by omega) (by omega) (by omega))))
  unfold ij;split<;>(try split)<;>omega
 | succ c ih =>
  intro q h1 h2 h3
  obtain ⟨s,s1,s2,s3⟩:=gB (k0:=q) (c0:=0) (by omega) cb ⟨by omega,by omega⟩ ⟨by omega,by omega⟩
  rw [Int.add_zero] at s2
  have k1:=cO (by omega) s2 cr
  refine Ev.step (fun k=>by rw [af.l2]) ?_
  rw [w64 (x:=q-1) (by omega) (by omega)]
  by_cases c2:m*q≤x
  ·refine Ev.bind s1 (Ev.bind k1 (evn ?_ (xf hr hb cr cb hm hx _ q (Nat.le_refl _) h2 h3 c2)))
   unfold ij;split<;>(try split)<;>omega
  ·have hq:q≠0:=fun h=>by rw [h,Int.mul_zero] at c2;omega
   refine Ev.bind s1 (Ev.bind k1 (evp ?_ (ih (q-1) (by omega) (by omega) (by omega))))
   unfold ij;rw [if_neg (by omega),if_neg (by omega)];omega
end Go.Proofs.YtfbgaddecbiimaaGreatDoor.P
end
section
namespace Go.Proofs.YtfbgaddecbiimaaGreatDoor.P
open Go.RowKit Go.Proofs.YtfbgaddecbiimaaGreatDoorW.PrintWords Go.Proofs.YtfbgaddecbiimaaGreatDoorW.PrintLast Go.Proofs.YtfbgaddecbiimaaGreatDoorW.PrintMore
set_option linter.unusedVariables false
theorem xg {r b:List Int} {x m t low:Int} (hr:r.length<34359738368) (hb:b.length<34359738368) (cr:Can RR r x) (cb:Can RR b m) (hm:0<m) (hx:x<m*10000) (ht:0≤t∧t<4611686018427387904) (hl:0<low):Ev (fun k=>af.j2 k r b t low) (x / m):=by
 have q0:0≤t / low:=Int.ediv_nonneg ht.1 (by omega)
 have q1:t / low≤t:=Int.ediv_le_self _ ht.1
 refine Ev.step (fun k=>by rw [af.j2]) ?_
 rw [eC ht.1,w64 (x:=t / low) (by omega) (by omega)]
 refine evn (by omega) (digit_l2 hr hb cr cb hm hx _ _ (Nat.le_refl _) ?_ ?_)
 ·unfold mn;split<;>omega
 ·unfold mn;split<;>omega
theorem digit_l1 {r b:List Int} {x m t:Int} (hr:r.length<34359738368) (hb:b.length<34359738368) (cr:Can RR r x) (cb:Can RR b m) (hm:0<m) (hx:x<m*10000) (ht:0≤t∧t<4611686018427387904):Ev (fun k=>af.l1 k r b (b.length:Int) t 0 ((b.length:Int)-1)) (x / m):=by
 have lb:b.length≠0:=fun h=>by have:=(cb.eN cP).1 h;omega
 have h1:=dH cb.1 ((b.length:Int)-1) (by omega) (by omega)
 have z1:=cb.2.1.rd (by omega)
 rw [eG] at h1
 by_cases c:b.length=1
 ·rw [c] at h1 z1
  have e0:((1:Nat):Int)-1=0:=by omega
  rw [e0] at h1 z1
  have hj:=xg hr hb cr cb hm hx ht (low:=rd b 0) (by omega)
  have em:mx 0 (wrap64 (((1:Nat):Int)-2))=0:=by rw [w64 (by omega) (by omega)];unfold mx;split<;>omega
  refine Ev.step (fun k=>by rw [af.l1]) ?_
  rw [c,em,e0,w64 (x:=0*10000) (by omega) (by omega),w64 (x:=0*10000+rd b 0) (by omega) (by omega),w64 (x:=0-1) (by omega) (by omega)]
  refine evp (by omega) (evp (by omega) (evp (by omega) ?_))
  refine Ev.step (fun k=>by rw [af.l1]) ?_
  rw [em]
  exact evn (by omega) (evp (by omega) (evp (by omega) hj))
 ·have h2:=dH cb.1 ((b.length:Int)-2) (by omega) (by omega)
  rw [eG] at h2
  have em:mx 0 (wrap64 ((b.length:Int)-2))=(b.length:Int)-2:=by rw [w64 (by omega) (by omega)];unfold mx;split<;>omega
  have hj:=xg hr hb cr cb hm hx ht (low:=(0*10000+rd b ((b.length:Int)-1))*10000+rd b ((b.length:Int)-2)) (by omega)
  refine Ev.step (fun k=>by rw [af.l1]) ?_
  rw [em,w64 (x:=0*10000) (by omega) (by omega),w64 (x:=0*10000+rd b ((b.length:Int)-1)) (by omega) (by omega),w64 (x:=(b.length:Int)-1-1) (by omega) (by omega),show (b.length:Int)-1-1=(b.length:Int)-2 by omega]
  refine evp (by omega) (evp (by omega) (evp (by omega) ?_))
  refine Ev.step (fun k=>by rw [af.l1]) ?_
  rw [em,w64 (x:=(0*10000+rd b ((b.length:Int)-1))*10000) (by omega) (by omega),w64 (x:=(0*10000+rd b ((b.length:Int)-1))*10000+rd b ((b.length:Int)-2)) (by omega) (by omega),w64 (x:=(b.length:Int)-2-1) (by omega) (by omega)]
  refine evp (by omega) (evp (by omega) (evp (by omega) ?_))
  refine Ev.step (fun k=>by rw [af.l1]) ?_
  rw [em]
  exact evn (by omega) (evn (by omega) hj)
theorem digit_l0 {r b:List Int} {x m:Int} (hr:r.length<34359738368) (hb:b.length<34359738368) (cr:Can RR r x) (cb:Can RR b m) (hm:0<m) (hx:x<m*10000) (c:Nat):∀ (t i:Int),(i+1-mx 0 ((b.length:Int)-2)).toNat=c→-1≤i→i≤b.length→0≤t→t<10000 ^ (3-c)→c≤3→Ev (fun k=>af.l0 k r b (b.length:Int) t 0 i) (x / m):=by
 have em:wrap64 ((b.length:Int)-2)=(b.length:Int)-2:=by rw [w64 (by omega) (by omega)]
 have hlo:0≤mx 0 ((b.length:Int)-2):=by unfold mx;split<;>omega
 induction c with
 | zero =>
  intro t i h1 h2 h3 h4 h5 h6
  have:=digit_l1 hr hb cr cb hm hx (t:=t) ⟨h4,Int.lt_trans h5 (by decide)⟩
  refine Ev.step (fun k=>by rw [af.l0]) ?_
  rw [em,w64 (x:=(b.length:Int)-1) (by omega) (by omega)]
  exact evn (by omega) this
 | succ c ih =>
  intro t i h1 h2 h3 h4 h5 h6
  have hp:(10000:Int) ^ (3-(c+1))*10000=10000 ^ (3-c):=by
   rw [← Int.pow_succ];congr 1;omega
  have hq:(10000:Int) ^ (3-c)≤10000 ^ 3:=eT (by decide) (by omega)
  have hq3:(10000:Int) ^ 3=1000000000000:=by decide
  refine Ev.step (fun k=>by rw [af.l0]) ?_
  rw [em,w64 (x:=t*10000) (by omega) (by omega),w64 (x:=i-1) (by omega) (by omega)]
  refine evp (by omega) ?_
  by_cases c1:i<(r.length:Int)
  ·have hx':=dH cr.1 i (by omega) (by omega)
   rw [eG] at hx'
   rw [w64 (x:=t*10000+rd r i) (by omega) (by omega)]
   exact evp c1 (evp (by omega) (ih (t*10000+rd r i) (i-1) (by omega) (by omega) (by omega) (by omega) (by omega) (by omega)))
  ·exact evn c1 (ih (t*10000) (i-1) (by omega) (by omega) (by omega) (by omega) (by omega) (by omega))
theorem xZ {r b:List Int} {x m:Int} (hr:r.length<34359738368) (hb:b.length<34359738368) (cr:Can RR r x) (cb:Can RR b m) (hm:0<m) (hx:x<m*10000):Ev (fun k=>af.f k r b) (x / m):=by
 unfold af.f
 have hlo:(((b.length:Int)+1-mx 0 ((b.length:Int)-2)).toNat)≤3:=by unfold mx;split<;>omega
 exact digit_l0 hr hb cr cb hm hx _ 0 _ rfl (by omega) (Int.le_refl _) (by omega) (Int.pow_pos (by decide)) hlo
end Go.Proofs.YtfbgaddecbiimaaGreatDoor.P
end
section
namespace Go.Proofs.YtfbgaddecbiimaaGreatDoor.P
open Go.RowKit Go.Proofs.YtfbgaddecbiimaaGreatDoorW.PrintWords Go.Proofs.YtfbgaddecbiimaaGreatDoorW.PrintLast Go.Proofs.YtfbgaddecbiimaaGreatDoorW.PrintMore
set_option linter.unusedVariables false
theorem alg_rd {x m q d a R va:Int} (h:x+m*q=va):(x*R+a-m*d)+m*(d+R*q)=a+R*va:=by grind
theorem r_dm_l0 {a b:List Int} {n m:Int} (hn:a.length<17179869184) (hb:b.length<17179869184) (ha:Can RR a n) (cb:Can RR b m) (hm:0<m) (d:Nat):∀ (i:Nat) (q r:List Int) (x:Int),i=d→i≤a.length→q.length=a.length→Dg RR (q.drop i)→Can RR r x→x<m→x+m*vl RR (q.drop i)=vl RR (a.drop i)→(∀ j:Nat,j<i→rd q (j:Int)=0) →
 ∃ q' r',Ev (fun k=>ay.l0 k a b q r ((i:Int)-1)) (q',r')∧Can RR q' (n / m)∧Can RR r' (n % m)∧q'.length≤a.length:=by
 induction d with
 | zero =>
  rintro i q r x rfl h1 h2 h3 h4 h5 h6 h7
  rw [List.drop_zero,List.drop_zero,ha.2.2] at h6
  rw [List.drop_zero] at h3
  have x0:=h4.fG cP
  obtain ⟨t,t1,t2,t3⟩:=kZ (l:=q) (by omega) h3
  have e1:n / m=vl RR q:=by rw [← h6,Int.add_mul_ediv_left _ _ (by omega),Int.ediv_eq_zero_of_lt x0 h5,Int.zero_add]
  have e2:n % m=x:=by rw [← h6,Int.add_mul_emod_self_left,Int.emod_eq_of_lt x0 h5]
  refine ⟨t,r,?_,by rw [e1];exact t2,by rw [e2];exact h4,by omega⟩
  refine Ev.step (fun k=>by rw [ay.l0]) ?_
  exact evn (by omega) (Ev.bind t1 (evs _))
 | succ d ih =>
  rintro i q r x rfl h1 h2 h3 h4 h5 h6 h7
  have hx:=dH ha.1 (d:Int) (by omega) (by omega)
  rw [eG] at hx
  have x0:=h4.fG cP
  have lr:=ic cb h4 (by omega)
  obtain ⟨t,t1,t2,t3⟩:=gB (k0:=10000) (c0:=rd a (d:Int)) (by omega) h4 ⟨by omega,by omega⟩ ⟨hx.1,by omega⟩
  have k1:=cO (by omega) t2 cb
  by_cases c1:x*10000+rd a (d:Int)<m
  ·obtain ⟨q',r',e1,e2⟩:=ih d q t (x*10000+rd a (d:Int)) rfl (by omega) h2
    (by rw [dS q d (by omega)];exact Dg.mk (by rw [h7 d (by omega)];omega) (by rw [h7 d (by omega)];decide) h3) t2 c1
    (by
     have:=alg_rd (R:=RR) (a:=rd a (d:Int)) (d:=0) h6
     rw [dS q d (by omega),dS a d (by omega),vl,vl,h7 d (by omega)]
     rw [Int.mul_zero,Int.sub_zero] at this
     exact this) (fun j hj=>h7 j (by omega))
   refine ⟨q',r',?_,e2⟩
   refine Ev.step (fun k=>by rw [ay.l0]) ?_
   rw [show (((d+1:Nat):Int)-1)=(d:Int) by omega,w64 (x:=(d:Int)-1) (by omega) (by omega)]
   refine evp (by omega) (evp (by omega) (evp (by omega) (Ev.bind t1 (Ev.bind k1 (evp ?_ e1)))))
   unfold ij;rw [if_pos c1];omega
  ·have d1:=Int.mul_ediv_add_emod (x*10000+rd a (d:Int)) m
   have d2:=Int.emod_nonneg (x*10000+rd a (d:Int)) (show m≠0 by omega)
   have d3:=Int.emod_lt_of_pos (x*10000+rd a (d:Int)) hm
   have hg:=xZ (r:=t) (b:=b) (by omega) (by omega) t2 cb hm (by omega)
   have g0:0≤(x*10000+rd a (d:Int)) / m:=Int.ediv_nonneg (by omega) (by omega)
   have g1:(x*10000+rd a (d:Int)) / m<10000:=Int.ediv_lt_of_lt_mul hm (by omega)
   generalize hG:(x*10000+rd a (d:Int)) / m=g at *
   obtain ⟨s,s1,s2,s3⟩:=gB (k0:=g) (c0:=0) (by omega) cb ⟨by omega,by omega⟩ ⟨by omega,by omega⟩
   rw [Int.add_zero] at s2
   obtain ⟨y,y1,y2,y3⟩:=r_Sub_sp (by omega) t2 s2 (by omega)
   have hs:=kV q (d:Int) g (by omega)
   rw [Int.toNat_natCast] at hs
   obtain ⟨q',r',e1,e2⟩:=ih d (q.set d g) y (x*10000+rd a (d:Int)-m*g) rfl (by omega) (by simpa using h2)
    (by rw [dF _ _ _ (by omega)];exact Dg.mk g0 (by rw [eG];exact g1) h3) y2 (by omega)
    (by
     rw [dF _ _ _ (by omega),dS a d (by omega),vl,vl]
     exact alg_rd h6)
    (fun j hj=>by
     have:=oi q (d:Int) (j:Int) g (by omega)
     rw [Int.toNat_natCast] at this
     rw [this]
     exact h7 j (by omega))
   refine ⟨q',r',?_,e2⟩
   refine Ev.step (fun k=>by rw [ay.l0]) ?_
   rw [show (((d+1:Nat):Int)-1)=(d:Int) by omega,w64 (x:=(d:Int)-1) (by omega) (by omega),Int.toNat_natCast]
   refine evp (by omega) (evp (by omega) (evp (by omega) (Ev.bind t1 (Ev.bind k1 (evn ?_ (Ev.bind hg (evp (by omega) (evb rfl ?_))))))))
   ·unfold ij;rw [if_neg c1];split<;>omega
   ·rw [hs]
    exact Ev.bind s1 (Ev.bind y1 e1)
end Go.Proofs.YtfbgaddecbiimaaGreatDoor.P
end
section
namespace Go.Proofs.YtfbgaddecbiimaaGreatDoor.P
open Go.RowKit Go.Proofs.YtfbgaddecbiimaaGreatDoorW.PrintWords Go.Proofs.YtfbgaddecbiimaaGreatDoorW.PrintLast Go.Proofs.YtfbgaddecbiimaaGreatDoorW.PrintMore
set_option linter.unusedVariables false
theorem jQ {a:Int} (h0:0≤a) (h1:a<100000000000000000):∃ r,Ev (fun k=>az.f k a) r∧Can RR r a:=by
 by_cases c:a<10000000000000
 ·exact r_Int_sp h0 c
 ·obtain ⟨r,h2,h3⟩:=wi a (a / 10000).toNat [a % 10000] (a / 10000) (by omega) (by omega) (by simp;omega) (Dg.mk (by omega) (by rw [eG];omega) (Dg.nil _)) (fun h=>by omega) (by
   show a % 10000+RR*0+a / 10000*RR ^ 1=a
   rw [eG];omega)
  refine ⟨r,?_,h3⟩
  refine Ev.congr (fun k=>by rw [az.f]) ?_
  refine Ev.step (fun k=>by rw [az.l0]) ?_
  rw [fa h0,eC h0,w64 (x:=a / 10000) (by omega) (by omega)]
  exact evp (by omega) (evp (by simp) h2)
theorem uG {a b:List Int} {n m:Int} (hn:a.length<1073741824) (hb:b.length<1073741824) (ha:Can RR a n) (cb:Can RR b m) (hm:0<m) :
 ∃ q r,Ev (fun k=>ay.f k a b) (q,r)∧Can RR q (n / m)∧Can RR r (n % m)∧q.length<1073741824∧r.length<1073741824:=by
 have n0:=ha.fG cP
 have hc:=cO (by omega) ha cb
 have r0:=Int.emod_nonneg n (show m≠0 by omega)
 have r1:=Int.emod_lt_of_pos n hm
 have fin:∀ q r,Can RR q (n / m)→Can RR r (n % m)→q.length<1073741824∧r.length<1073741824:=by
  intro q r hq hr
  have l1:=ic ha hq (Int.ediv_le_self _ n0)
  have l2:=ic cb hr (by omega)
  omega
 have key:∃ q r,Ev (fun k=>ay.f k a b) (q,r)∧Can RR q (n / m)∧Can RR r (n % m):=by
  by_cases c1:n<m
  ·refine ⟨[],a,?_,by rw [Int.ediv_eq_zero_of_lt n0 c1];exact Can.zero _,by rw [Int.emod_eq_of_lt n0 c1];exact ha⟩
   unfold ay.f
   refine Ev.bind hc (evp ?_ (evs _))
   unfold ij;rw [if_pos c1];omega
  ·have hcm:¬ ij n m<0:=by unfold ij;rw [if_neg c1];split<;>omega
   have lba:=ic ha cb (by omega)
   obtain ⟨la1,la2⟩:=iI (by omega) ha
   obtain ⟨lb1,lb2⟩:=iI (by omega) cb
   by_cases c2:a.length≤4
   ·have hlt:=ha.lt cP
    have h4:=eT (B:=RR) (by decide) c2
    have h5:RR ^ 4=10000000000000000:=by decide
    have q0:0≤n / m:=Int.ediv_nonneg n0 (by omega)
    have q1:n / m≤n:=Int.ediv_le_self _ n0
    obtain ⟨x,x1,x2⟩:=jQ (a:=n / m) q0 (by omega)
    obtain ⟨y,y1,y2⟩:=jQ (a:=n % m) r0 (by omega)
    refine ⟨x,y,?_,x2,y2⟩
    unfold ay.f
    refine Ev.bind hc (evn hcm (Ev.bind (la1 c2) (evp rfl (Ev.bind (lb1 (by omega)) (evn (show ¬ m=0 by omega) ?_)))))
    rw [eC n0,fa n0,w64 (x:=n / m) (by omega) (by omega)]
    exact Ev.bind x1 (Ev.bind y1 (evs _))
   ·by_cases c3:b.length=1
    ·have hx:=dH cb.1 0 (by omega) (by omega)
     rw [eG] at hx
     have em:m=rd b 0:=by
      have e:=dI RR b 0 (by omega)
      rw [show 0+1=b.length by omega,List.take_length,cb.2.2] at e
      simpa [vl] using e
     obtain ⟨q,q1,q2,q3⟩:=ya (by omega) ha (K:=m) ⟨by omega,by omega⟩
     obtain ⟨y,y1,y2⟩:=jQ (a:=n % m) r0 (by omega)
     refine ⟨q,y,?_,q2,y2⟩
     unfold ay.f
     refine Ev.bind hc (evn hcm (Ev.bind (la2 (by omega)) (evn (by simp) (evp (by omega) (evp (by omega) ?_)))))
     rw [← em]
     exact Ev.bind q1 (Ev.bind y1 (evs _))
    ·obtain ⟨q,r,e1,e2,e3,e4⟩:=r_dm_l0 (by omega) (by omega) ha cb hm a.length a.length (List.replicate a.length 0) [] 0 rfl (Nat.le_refl _) (by simp) (by rw [List.drop_eq_nil_of_le (by simp)];exact Dg.nil _) (Can.zero _) hm (by rw [List.drop_eq_nil_of_le (by simp),List.drop_length];simp [vl]) (fun j hj=>by rw [jk _ _ (by simpa using hj)];simp)
     refine ⟨q,r,?_,e2,e3⟩
     unfold ay.f
     refine Ev.bind hc (evn hcm (Ev.bind (la2 (by omega)) (evn (by simp) (evn (by omega) (evp (by omega) (evp (by omega) ?_))))))
     rw [w64 (x:=(a.length:Int)-1) (by omega) (by omega),Int.toNat_natCast]
     exact e1
 obtain ⟨q,r,e1,e2,e3⟩:=key
 exact ⟨q,r,e1,e2,e3,fin q r e2 e3⟩
end Go.Proofs.YtfbgaddecbiimaaGreatDoor.P
end
section
namespace Go.Proofs.YtfbgaddecbiimaaGreatDoor.P
open Go.RowKit Go.Proofs.YtfbgaddecbiimaaGreatDoorW.PrintWords Go.Proofs.YtfbgaddecbiimaaGreatDoorW.PrintLast Go.Proofs.YtfbgaddecbiimaaGreatDoorW.PrintMore
set_option linter.unusedVariables false
def gI (a b:Int):Int:=((Int.gcd a b:Nat):Int)
theorem gI_comm (a b:Int):gI a b=gI b a:=by unfold gI;rw [Int.gcd_comm]
theorem rz {a:Int} (h:0≤a):gI a 0=a:=by
 unfold gI
 rw [Int.gcd_zero_right]
 omega
theorem gI_sub (a b k:Int):gI b (a-k*b)=gI a b:=by
 unfold gI
 rw [Int.gcd_sub_mul_right_right,Int.gcd_comm]
theorem tK (a b:Int):gI b (a % b)=gI a b:=by
 rw [Int.emod_def,Int.mul_comm b]
 exact gI_sub a b (a / b)
theorem gI_le {a b:Int} (h:0<b):gI a b≤b:=by
 unfold gI
 exact Int.le_of_dvd h (Int.gcd_dvd_right a b)
theorem r_gcd_l1 (c:Nat):∀ x y:Int,y.toNat=c→0≤x→x<100000000000000000→0≤y→y<100000000000000000→∃ r,Ev (fun k=>ak.l1 k x y) r∧Can RR r (gI x y):=by
 induction c using Nat.strongRecOn with
 | _ c ih =>
  intro x y hc x0 x1 y0 y1
  by_cases c1:y>0
  ·have m0:=Int.emod_nonneg x (show y≠0 by omega)
   have m1:=Int.emod_lt_of_pos x c1
   obtain ⟨r,r1,r2⟩:=ih (x % y).toNat (by omega) y (x % y) rfl y0 y1 m0 (by omega)
   rw [tK] at r2
   refine ⟨r,?_,r2⟩
   refine Ev.step (fun k=>by rw [ak.l1]) ?_
   rw [fa x0]
   exact evp c1 (evn (by omega) r1)
  ·have e:y=0:=by omega
   subst e
   obtain ⟨r,r1,r2⟩:=jQ x0 x1
   rw [rz x0]
   refine ⟨r,?_,r2⟩
   refine Ev.step (fun k=>by rw [ak.l1]) ?_
   exact evn (by omega) (Ev.bind r1 (evs _))
theorem r_gcd_l0 (c:Nat):∀ (a b:List Int) (n m:Int),m.toNat=c→a.length<1073741824→b.length<1073741824→Can RR a n→Can RR b m→∃ r,Ev (fun k=>ak.l0 k a b) r∧Can RR r (gI n m):=by
 induction c using Nat.strongRecOn with
 | _ c ih =>
  intro a b n m hc la lb ha hb
  have n0:=ha.fG cP
  have m0:=hb.fG cP
  have hz:=hb.eN cP
  by_cases c1:m=0
  ·have e:=hz.2 c1
   rw [c1,rz n0]
   refine ⟨a,?_,ha⟩
   refine Ev.step (fun k=>by rw [ak.l0]) ?_
   exact evn (by omega) (evs _)
  ·have e:b.length≠0:=fun h=>c1 (hz.1 h)
   have mp:0<m:=by omega
   obtain ⟨la1,la2⟩:=iI (by omega) ha
   obtain ⟨lb1,lb2⟩:=iI (by omega) hb
   have h5:RR ^ 4=10000000000000000:=by decide
   have slow:∀ x y,∃ r,Ev (fun k=>ak.j1 k a b x y false) r∧Can RR r (gI n m):=by
    intro x y
    have r0:=Int.emod_nonneg n (show m≠0 by omega)
    have r1:=Int.emod_lt_of_pos n mp
    obtain ⟨q,r,d1,d2,d3,d4,d5⟩:=uG la lb ha hb mp
    obtain ⟨z,z1,z2⟩:=ih (n % m).toNat (by omega) b r m (n % m) rfl lb d5 hb d3
    rw [tK] at z2
    refine ⟨z,?_,z2⟩
    refine Ev.step (fun k=>by rw [ak.j1]) ?_
    exact evn (by simp) (Ev.bind d1 z1)
   by_cases c2:a.length≤4
   ·by_cases c3:b.length≤4
    ·have hlt:=ha.lt cP
     have h4:=eT (B:=RR) (by decide) c2
     have hlt':=hb.lt cP
     have h4':=eT (B:=RR) (by decide) c3
     obtain ⟨z,z1,z2⟩:=r_gcd_l1 _ n m rfl n0 (by omega) m0 (by omega)
     refine ⟨z,?_,z2⟩
     refine Ev.step (fun k=>by rw [ak.l0]) ?_
     refine evp (by omega) (Ev.bind (la1 c2) (Ev.bind (lb1 c3) (evp rfl ?_)))
     refine Ev.step (fun k=>by rw [ak.j1]) ?_
     exact evp rfl z1
    ·obtain ⟨z,z1,z2⟩:=slow n 0
     refine ⟨z,?_,z2⟩
     refine Ev.step (fun k=>by rw [ak.l0]) ?_
     exact evp (by omega) (Ev.bind (la1 c2) (Ev.bind (lb2 (by omega)) (evp rfl z1)))
   ·by_cases c3:b.length≤4
    ·obtain ⟨z,z1,z2⟩:=slow 0 m
     refine ⟨z,?_,z2⟩
     refine Ev.step (fun k=>by rw [ak.l0]) ?_
     exact evp (by omega) (Ev.bind (la2 (by omega)) (Ev.bind (lb1 c3) (evn (by simp) z1)))
    ·obtain ⟨z,z1,z2⟩:=slow 0 0
     refine ⟨z,?_,z2⟩
     refine Ev.step (fun k=>by rw [ak.l0]) ?_
     exact evp (by omega) (Ev.bind (la2 (by omega)) (Ev.bind (lb2 (by omega)) (evn (by simp) z1)))
theorem r_GCD_sp {a b:List Int} {n m:Int} (la:a.length<1073741824) (lb:b.length<1073741824) (ha:Can RR a n) (hb:Can RR b m):∃ r,Ev (fun k=>ak.f k a b) r∧Can RR r (gI n m):=by
 unfold ak.f
 exact r_gcd_l0 _ a b n m rfl la lb ha hb
end Go.Proofs.YtfbgaddecbiimaaGreatDoor.P
end
section
namespace Go.Proofs.YtfbgaddecbiimaaGreatDoor.P
open Go.RowKit Go.Proofs.YtfbgaddecbiimaaGreatDoorW.PrintWords Go.Proofs.YtfbgaddecbiimaaGreatDoorW.PrintLast Go.Proofs.YtfbgaddecbiimaaGreatDoorW.PrintMore
set_option linter.unusedVariables false
theorem gx {r:List Int} {v:Int} (hr:Can WW r v) (hl:r.length≤2):cT.f r=some (v,true):=by
 unfold cT.f
 by_cases c:r.length=0
 ·rw [(hr.eN aW).1 c,if_pos (by omega)]
 ·have e:=l9 (a:=r) (by omega)
  have v0:=hr.fG aW
  have h0:=dH hr.1 0 (by omega) (by omega)
  rw [cU] at h0
  rw [hr.2.2] at e
  by_cases h1:r.length=1
  ·rw [h1] at e
   have e2:v=rd r 0:=by simpa [vl] using e
   rw [if_neg (by omega),if_pos (by omega),if_pos (by omega),← e2,u64 (x:=v) (by omega) (by omega)]
  ·have h2:r.length=2:=by omega
   have hx:=dH hr.1 1 (by omega) (by omega)
   rw [cU] at hx
   have e3:=dI WW r 0 (by omega)
   have e4:v=rd r 1*4294967296+rd r 0:=by
    rw [h2] at e
    have f1:((2:Nat):Int)-1=1:=rfl
    have f2:(2:Nat)-1=0+1:=rfl
    rw [f1,f2,e3,cU,List.take_zero] at e
    simp only [vl] at e
    rw [e]
    have f3:((0:Nat):Int)=0:=rfl
    have f4:(4294967296:Int) ^ 0=1:=rfl
    have f5:(4294967296:Int) ^ (0+1)=4294967296:=rfl
    rw [f3,f4,f5]
    omega
   rw [if_neg (by omega),if_neg (by omega),if_pos (by omega),if_pos (by omega),if_pos (by omega),u64 (x:=rd r 1) (by omega) (by omega),u64 (x:=rd r 0) (by omega) (by omega),u64 (x:=rd r 1*4294967296) (by omega) (by omega),or64 hx h0,e4]
theorem BH {n m p q:Int}:m*q-n*(-p)=p*n+q*m:=by grind
theorem BG {n m p q:Int}:n*p-m*(-q)=p*n+q*m:=by grind
theorem qx {a b:List Int} {n m p q:Int} (la:a.length<1073741824) (lb:b.length<1073741824) (ha:Can WW a n) (hb:Can WW b m) (hs:(0≤p∧q≤0)∨(p≤0∧0≤q))
 (hp:-4611686018427387904≤p∧p≤4611686018427387904) (hq:-4611686018427387904≤q∧q≤4611686018427387904) (h:0≤p*n+q*m):∃ r,Ev (fun k=>aY.f k a b p q) r∧Can WW r (p*n+q*m):=by
 have hW2:WW ^ 2=18446744073709551616:=by decide
 have pos:p≤0→0≤q→∃ r,Ev (fun k=>aY.j0 k a b p q true) r∧Can WW r (p*n+q*m):=by
  intro p0 q0
  obtain ⟨t,t1,t2⟩:=eL (a:=q) q0 (by omega)
  have t3:=t2.gP (k:=2) cR (by omega)
  obtain ⟨x,x1,x2,x3⟩:=jT (by omega) hb t2
  obtain ⟨s,s1,s2⟩:=eL (a:=-p) (by omega) (by omega)
  have s3:=s2.gP (k:=2) cR (by omega)
  obtain ⟨y,y1,y2,y3⟩:=jT (by omega) ha s2
  rw [← BH] at h
  obtain ⟨z,z1,z2,z3⟩:=qf (by omega) x2 y2 (by omega)
  rw [BH] at z2
  refine ⟨z,?_,z2⟩
  refine Ev.step (fun k=>by rw [aY.j0]) ?_
  rw [w64 (x:=-p) (by omega) (by omega),u64 (x:=-p) (by omega) (by omega),u64 (x:=q) (by omega) (by omega)]
  exact evp rfl (Ev.bind t1 (Ev.bind x1 (Ev.bind s1 (Ev.bind y1 (Ev.bind z1 (evs _))))))
 have neg:0≤p→q≤0→∃ r,Ev (fun k=>aY.j0 k a b p q false) r∧Can WW r (p*n+q*m):=by
  intro p0 q0
  obtain ⟨t,t1,t2⟩:=eL (a:=p) p0 (by omega)
  have t3:=t2.gP (k:=2) cR (by omega)
  obtain ⟨x,x1,x2,x3⟩:=jT (by omega) ha t2
  obtain ⟨s,s1,s2⟩:=eL (a:=-q) (by omega) (by omega)
  have s3:=s2.gP (k:=2) cR (by omega)
  obtain ⟨y,y1,y2,y3⟩:=jT (by omega) hb s2
  rw [← BG] at h
  obtain ⟨z,z1,z2,z3⟩:=qf (by omega) x2 y2 (by omega)
  rw [BG] at z2
  refine ⟨z,?_,z2⟩
  refine Ev.step (fun k=>by rw [aY.j0]) ?_
  rw [w64 (x:=-q) (by omega) (by omega),u64 (x:=-q) (by omega) (by omega),u64 (x:=p) (by omega) (by omega)]
  exact evn (by simp) (Ev.bind t1 (Ev.bind x1 (Ev.bind s1 (Ev.bind y1 (Ev.bind z1 (evs _))))))
 unfold aY.f
 by_cases c1:p<0
 ·obtain ⟨r,r1,r2⟩:=pos (by omega) (by omega)
  exact ⟨r,evp c1 r1,r2⟩
 ·by_cases c2:q>0
  ·obtain ⟨r,r1,r2⟩:=pos (by omega) (by omega)
   rw [decide_eq_true c2]
   exact ⟨r,evn c1 r1,r2⟩
  ·obtain ⟨r,r1,r2⟩:=neg (by omega) (by omega)
   rw [decide_eq_false c2]
   exact ⟨r,evn c1 r1,r2⟩
theorem alg_lin1 {p q x y T a b d:Int}:p*(T*x+a)+q*(T*y+b)=T*(p*x+q*y+q)+p*a+(q*b-q*T):=by grind
theorem alg_lin2 {p q x y T a b d:Int}:p*(T*x+a)+q*(T*y+b)=T*(p*x+q*y+p)+(p*a-p*T)+q*b:=by grind
theorem Ay {p q x y T a b d:Int} (hT:0<T) (ha:0≤a∧a<T) (hb:0≤b∧b<T) (hs:(0≤p∧q≤0)∨(p≤0∧0≤q)) (h1:d≤p*x+q*y+p) (h2:d≤p*x+q*y+q):T*d≤p*(T*x+a)+q*(T*y+b):=by
 rcases hs with ⟨h3,h4⟩ | ⟨h3,h4⟩
 ·have k1:0≤p*a:=Int.mul_nonneg h3 ha.1
  have k2:q*T≤q*b:=Int.mul_le_mul_of_nonpos_left h4 (by omega)
  have k3:T*d≤T*(p*x+q*y+q):=Int.mul_le_mul_of_nonneg_left h2 (by omega)
  rw [alg_lin1 (d:=d)]
  omega
 ·have k1:0≤q*b:=Int.mul_nonneg h4 hb.1
  have k2:p*T≤p*a:=Int.mul_le_mul_of_nonpos_left h3 (by omega)
  have k3:T*d≤T*(p*x+q*y+p):=Int.mul_le_mul_of_nonneg_left h1 (by omega)
  rw [alg_lin2 (d:=d)]
  omega
theorem oL {k r:Int} (hk:0≤k∧k≤2147483648) (hr:-2147483648≤r∧r≤2147483648):-4611686018427387904≤k*r∧k*r≤4611686018427387904:=by
 have h1:k*r≤k*2147483648:=Int.mul_le_mul_of_nonneg_left hr.2 hk.1
 have h2:k*(-2147483648)≤k*r:=Int.mul_le_mul_of_nonneg_left hr.1 hk.1
 omega
theorem alg_l1 {p q r s x y k u v:Int} (hu:u=p*x+q*y) (hv:v=r*x+s*y):u-k*v=(p-k*r)*x+(q-k*s)*y:=by rw [hu,hv];grind
theorem alg_l2 {p q r s n m k:Int}:(p-k*r)*n+(q-k*s)*m=(p*n+q*m)-k*(r*n+s*m):=by grind
theorem alg_l3 {p q r s n m k:Int}:((k+1)*r-p)*n+((k+1)*s-q)*m=(k+1)*(r*n+s*m)-(p*n+q*m):=by grind
theorem alg_l4 {u p v r k:Int}:(u-k*v)+(p-k*r)=(u+p)-k*(v+r):=by grind
theorem alg_l5 {x y p q r s u v k g h:Int} (hu:u=p*x+q*y) (hv:v=r*x+s*y):((k+1)*r-p)*x+((k+1)*s-q)*y+((k+1)*g-h)=(k+1)*(v+g)-(u+h):=by rw [hu,hv];grind
theorem tX {k A:Int}:(k+1)*A=k*A+A:=by grind
end Go.Proofs.YtfbgaddecbiimaaGreatDoor.P
end
section
namespace Go.Proofs.YtfbgaddecbiimaaGreatDoor.P
open Go.RowKit Go.Proofs.YtfbgaddecbiimaaGreatDoorW.PrintWords Go.Proofs.YtfbgaddecbiimaaGreatDoorW.PrintLast Go.Proofs.YtfbgaddecbiimaaGreatDoorW.PrintMore
set_option linter.unusedVariables false
def vC (n m:Int) (R:List Int×List Int×Bool):Prop:=R.2.2=true→∃ C D,Can WW R.1 C∧Can WW R.2.1 D∧gI C D=gI n m∧D≤C∧D<m∧C≤n
theorem AB {a b:List Int} {n m p q r s:Int} (la:a.length<1073741824) (lb:b.length<1073741824) (ha:Can WW a n) (hb:Can WW b m)
 (h1:(0≤p∧q≤0)∨(p≤0∧0≤q)) (h2:(0≤r∧s≤0)∨(r≤0∧0≤s))
 (bp:-2147483648≤p∧p≤2147483648) (bq:-2147483648≤q∧q≤2147483648) (br:-2147483648≤r∧r≤2147483648) (bs:-2147483648≤s∧s≤2147483648)
 (hA:0≤p*n+q*m) (hB:0≤r*n+s*m) (hg:gI (p*n+q*m) (r*n+s*m)=gI n m) (hn:p*n+q*m≤n) (hBA:r*n+s*m≤p*n+q*m) (hm:q≠0→r*n+s*m<m) :
 ∃ R,Ev (fun k=>aO.j2 k a b p q r s) R∧vC n m R:=by
 by_cases c:q=0
 ·refine ⟨([],[],false),?_,fun h=>by simp at h⟩
  refine Ev.step (fun k=>by rw [aO.j2]) ?_
  exact evp c (evs _)
 ·obtain ⟨x,x1,x2⟩:=qx la lb ha hb h1 (by omega) (by omega) hA
  obtain ⟨y,y1,y2⟩:=qx la lb ha hb h2 (by omega) (by omega) hB
  refine ⟨(x,y,true),?_,fun _=>⟨_,_,x2,y2,hg,hBA,hm c,hn⟩⟩
  refine Ev.step (fun k=>by rw [aO.j2]) ?_
  exact evn c (Ev.bind x1 (Ev.bind y1 (evs _)))
theorem AA {a b:List Int} {n m x y T a' b':Int} (la:a.length<1073741824) (lb:b.length<1073741824) (ha:Can WW a n) (hb:Can WW b m) (hT:0<T) (hn:n=T*x+a') (hm:m=T*y+b') (ha':0≤a'∧a'<T) (hb':0≤b'∧b'<T) (c:Nat) :
 ∀ p q r s u v:Int,(v+r).toNat=c→u=p*x+q*y→v=r*x+s*y →
 ((0≤p∧q≤0∧r≤0∧0≤s)∨(p≤0∧0≤q∧0≤r∧s≤0)) →
 (0≤u+p∧u+p≤2147483648)→(0≤u+q∧u+q≤2147483648)→(0≤v+r∧v+r≤2147483648)→(0≤v+s∧v+s≤2147483648) →
 gI (p*n+q*m) (r*n+s*m)=gI n m→r*n+s*m≤m→p*n+q*m≤n→r*n+s*m≤p*n+q*m→(q≠0→r*n+s*m<m)→m≤n →
 ∃ R,Ev (fun k=>aO.l0 k a b p q r s u v) R∧vC n m R:=by
 induction c using Nat.strongRecOn with
 | _ c ih =>
  intro p q r s u v hc hu hv hs bp bq br bs hg hBm hAn hBA hq hmn
  have hA:0≤p*n+q*m:=by
   have:=Ay (p:=p) (q:=q) (x:=x) (y:=y) (d:=0) hT ha' hb' (by omega) (by rw [← hu];omega) (by rw [← hu];omega)
   rw [hn,hm];omega
  have hB:0≤r*n+s*m:=by
   have:=Ay (p:=r) (q:=s) (x:=x) (y:=y) (d:=0) hT ha' hb' (by omega) (by rw [← hv];omega) (by rw [← hv];omega)
   rw [hn,hm];omega
  obtain ⟨R0,e1,e2⟩:=AB (p:=p) (q:=q) (r:=r) (s:=s) la lb ha hb (by omega) (by omega) (by omega) (by omega) (by omega) (by omega) hA hB hg hAn hBA hq
  have stop:Ev (fun k=>aO.j1 k a b p q r s u v false) R0:=by
   refine Ev.step (fun k=>by rw [aO.j1]) ?_
   exact evn (by simp) e1
  by_cases c1:v+r=0
  ·refine ⟨R0,?_,e2⟩
   refine Ev.step (fun k=>by rw [aO.l0]) ?_
   rw [w64 (x:=v+r) (by omega) (by omega)]
   exact evp c1 stop
  ·by_cases c2:v+s=0
   ·refine ⟨R0,?_,e2⟩
    refine Ev.step (fun k=>by rw [aO.l0]) ?_
    rw [w64 (x:=v+r) (by omega) (by omega),w64 (x:=v+s) (by omega) (by omega),show (v+s != 0)=false by simp [c2]]
    exact evn c1 stop
   ·have step:∀ R,Ev (fun k=>aO.j1 k a b p q r s u v true) R→Ev (fun k=>aO.l0 k a b p q r s u v) R:=by
     intro R h
     refine Ev.step (fun k=>by rw [aO.l0]) ?_
     rw [w64 (x:=v+r) (by omega) (by omega),w64 (x:=v+s) (by omega) (by omega),show (v+s != 0)=true by simp [c2]]
     exact evn c1 h
    have k0:0≤(u+p) / (v+r):=Int.ediv_nonneg (by omega) (by omega)
    have k1:(u+p) / (v+r)≤u+p:=Int.ediv_le_self _ (by omega)
    have g0:0≤(u+q) / (v+s):=Int.ediv_nonneg (by omega) (by omega)
    have g1:(u+q) / (v+s)≤u+q:=Int.ediv_le_self _ (by omega)
    have d1:=Int.mul_ediv_add_emod (u+p) (v+r)
    have d2:=Int.emod_nonneg (u+p) (show v+r≠0 by omega)
    have d3:=Int.emod_lt_of_pos (u+p) (show 0<v+r by omega)
    have f1:=Int.mul_ediv_add_emod (u+q) (v+s)
    have f2:=Int.emod_nonneg (u+q) (show v+s≠0 by omega)
    have f3:=Int.emod_lt_of_pos (u+q) (show 0<v+s by omega)
    generalize hk:(u+p) / (v+r)=K at k0 k1 d1
    generalize hk2:(u+q) / (v+s)=K2 at g0 g1 f1
    generalize (u+p) % (v+r)=w1 at d1 d2 d3
    generalize (u+q) % (v+s)=w2 at f1 f2 f3
    have tests:∀ R,(K=K2→Ev (fun k=>aO.l0 k a b r s (p-K*r) (q-K*s) v (u-K*v)) R)→(K≠K2→Ev (fun k=>aO.j2 k a b p q r s) R)→Ev (fun k=>aO.j1 k a b p q r s u v true) R:=by
     intro R h1 h2
     refine Ev.step (fun k=>by rw [aO.j1]) ?_
     have m1:=oL (k:=K) (r:=r) ⟨k0,by omega⟩ (by omega)
     have m2:=oL (k:=K) (r:=s) ⟨k0,by omega⟩ (by omega)
     have m3:=oL (k:=K) (r:=v) ⟨k0,by omega⟩ (by omega)
     rw [w64 (x:=v+r) (by omega) (by omega),w64 (x:=v+s) (by omega) (by omega),w64 (x:=u+p) (by omega) (by omega),w64 (x:=u+q) (by omega) (by omega),eC (x:=u+p) (by omega),eC (x:=u+q) (by omega),hk,hk2,
      w64 (x:=K) (by omega) (by omega),w64 (x:=K2) (by omega) (by omega),w64 (x:=K*r) (by omega) (by omega),w64 (x:=K*s) (by omega) (by omega),w64 (x:=K*v) (by omega) (by omega),w64 (x:=p-K*r) (by omega) (by omega),w64 (x:=q-K*s) (by omega) (by omega),w64 (x:=u-K*v) (by omega) (by omega)]
     refine evp rfl (evn c1 (evn c2 ?_))
     by_cases c3:K=K2
     ·exact evp c3 (h1 c3)
     ·exact evn c3 (h2 c3)
    by_cases c3:K=K2
    ·subst c3
     have s1:(u-K*v)+(p-K*r)=w1:=by rw [alg_l4,Int.mul_comm K];omega
     have s2:(u-K*v)+(q-K*s)=w2:=by rw [alg_l4,Int.mul_comm K];omega
     have sg:(0≤r∧s≤0∧p-K*r≤0∧0≤q-K*s)∨(r≤0∧0≤s∧0≤p-K*r∧q-K*s≤0):=by
      rcases hs with ⟨t1,t2,t3,t4⟩ | ⟨t1,t2,t3,t4⟩
      ·have i1:=Int.mul_nonpos_of_nonneg_of_nonpos k0 t3
       have i2:=Int.mul_nonneg k0 t4
       exact .inr ⟨t3,t4,by omega,by omega⟩
      ·have i1:=Int.mul_nonneg k0 t3
       have i2:=Int.mul_nonpos_of_nonneg_of_nonpos k0 t4
       exact .inl ⟨t3,t4,by omega,by omega⟩
     have lt:(p-K*r)*n+(q-K*s)*m<r*n+s*m:=by
      have i:=Ay (p:=(K+1)*r-p) (q:=(K+1)*s-q) (x:=x) (y:=y) (d:=1) hT ha' hb' (by
       rw [tX,tX]
       omega) (by
       rw [alg_l5 hu hv,tX,Int.mul_comm K]
       omega) (by
       rw [alg_l5 hu hv,tX,Int.mul_comm K]
       omega)
      rw [← hn,← hm,alg_l3,tX] at i
      rw [alg_l2]
      omega
     obtain ⟨R,r1,r2⟩:=ih (u-K*v+(p-K*r)).toNat (by rw [s1];omega) r s (p-K*r) (q-K*s) v (u-K*v) rfl hv (alg_l1 hu hv) sg (by omega) (by omega) (by omega) (by omega)
      (by rw [alg_l2,gI_sub];exact hg) (by omega) (by omega) (by omega) (fun _=>by omega) hmn
     exact ⟨R,step R (tests R (fun _=>r1) (fun h=>absurd rfl h)),r2⟩
    ·exact ⟨R0,step R0 (tests R0 (fun h=>absurd h c3) (fun _=>e1)),e2⟩
theorem Az {a b:List Int} {n m:Int} (la:a.length<1073741824) (lb:b.length<1073741824) (hb2:2<b.length) (ha:Can WW a n) (hb:Can WW b m) (hmn:m≤n):∃ R,Ev (fun k=>aO.f k a b) R∧vC n m R:=by
 have lba:=gC ha hb hmn
 have n0:=ha.fG aW
 have m0:=hb.fG aW
 have mz:=hb.eN aW
 have m1:m≠0:=fun h=>by have:=mz.2 h;omega
 obtain ⟨A,A1,A2,A3,A4⟩:=oP (by omega) ha
 obtain ⟨B,B1,B2,B3,B4⟩:=oP (by omega) hb
 obtain ⟨A5,A6,A7,A8⟩:=A4 (by omega)
 clear A3 A4 B3 B4
 unfold aO.f
 rw [A1,B1]
 simp only [Option.bind_some]
 rw [w64 (x:=(A:Int)-20) (by omega) (by omega),w64 (x:=(A:Int)-31) (by omega) (by omega),show (A:Int)-31=((A-31:Nat):Int) by omega]
 by_cases c:(B:Int)<(A:Int)-20
 ·exact ⟨([],[],false),evp c (evs _),fun h=>by simp at h⟩
 ·obtain ⟨x,x1,x2,x3⟩:=l7 (A-31) (by omega) (by omega) ha
  obtain ⟨y,y1,y2,y3⟩:=l7 (A-31) (by omega) (by omega) hb
  have hT:=two_pos (A-31)
  have e:(2:Int) ^ A=2 ^ (A-31)*2147483648:=by
   rw [show (2147483648:Int)=2 ^ 31 by decide,← Int.pow_add]
   congr 1
   omega
  rw [e] at A6
  clear e A5
  generalize (2:Int) ^ (A-31)=T at hT A6 x2 y2
  have q1:n / T<2147483648:=Int.ediv_lt_of_lt_mul hT (by rw [Int.mul_comm];exact A6)
  have q2:m / T≤n / T:=Int.ediv_le_ediv hT hmn
  have q3:0≤m / T:=Int.ediv_nonneg m0 (by omega)
  have hW2:WW ^ 2=18446744073709551616:=by decide
  have sx:=gx x2 (x2.gP (k:=2) cR (by omega))
  have sy:=gx y2 (y2.gP (k:=2) cR (by omega))
  have i1:=Int.emod_nonneg n (show T≠0 by omega)
  have i2:=Int.emod_lt_of_pos n hT
  have i3:=Int.emod_nonneg m (show T≠0 by omega)
  have i4:=Int.emod_lt_of_pos m hT
  have j1:=Int.mul_ediv_add_emod n T
  have j2:=Int.mul_ediv_add_emod m T
  obtain ⟨R,r1,r2⟩:=AA la lb ha hb hT j1.symm j2.symm ⟨i1,i2⟩ ⟨i3,i4⟩ _ 1 0 0 1 (n / T) (m / T) rfl (by omega) (by omega) (by omega) (by omega) (by omega) (by omega) (by omega)
   (by rw [Int.one_mul,Int.zero_mul,Int.zero_mul,Int.one_mul,Int.add_zero,Int.zero_add]) (by omega) (by omega) (by omega) (fun h=>absurd rfl h) hmn
  refine ⟨R,evn c (Ev.bind x1 (evb sx (Ev.bind y1 (evb sy ?_)))),r2⟩
  show Ev (fun k=>aO.l0 k a b 1 0 0 1 (wrap64 (n / T)) (wrap64 (m / T))) R
  rw [w64 (x:=n / T) (by omega) (by omega),w64 (x:=m / T) (by omega) (by omega)]
  exact r1
theorem yv (c:Nat):∀ x y:Int,y.toNat=c→0≤x→x<18446744073709551616→0≤y→y<18446744073709551616→∃ r,Ev (fun k=>bE.l1 k x y) r∧Can WW r (gI x y):=by
 induction c using Nat.strongRecOn with
 | _ c ih =>
  intro x y hc x0 x1 y0 y1
  by_cases c1:y=0
  ·subst c1
   obtain ⟨r,r1,r2⟩:=eL x0 x1
   rw [rz x0]
   refine ⟨r,?_,r2⟩
   refine Ev.step (fun k=>by rw [bE.l1]) ?_
   exact evp rfl (Ev.bind r1 (evs _))
  ·have m0:=Int.emod_nonneg x (show y≠0 by omega)
   have m1:=Int.emod_lt_of_pos x (show 0<y by omega)
   obtain ⟨r,r1,r2⟩:=ih (x % y).toNat (by omega) y (x % y) rfl y0 y1 m0 (by omega)
   rw [tK] at r2
   refine ⟨r,?_,r2⟩
   refine Ev.step (fun k=>by rw [bE.l1]) ?_
   rw [fa x0]
   exact evn c1 r1
theorem qc (c:Nat):∀ (a b:List Int) (n m:Int),m.toNat=c→a.length<1073741824→Can WW a n→Can WW b m→m≤n→∃ r,Ev (fun k=>bE.l0 k a b) r∧Can WW r (gI n m):=by
 induction c using Nat.strongRecOn with
 | _ c ih =>
  intro a b n m hc la ha hb hmn
  have lba:=gC ha hb hmn
  have n0:=ha.fG aW
  have m0:=hb.fG aW
  have hz:=hb.eN aW
  have hW2:WW ^ 2=18446744073709551616:=by decide
  by_cases c1:2<b.length
  ·have mp:0<m:=by
    rcases Int.lt_or_le 0 m with h | h
    ·exact h
    ·have:=hz.2 (by omega)
     omega
   obtain ⟨R,r1,r2⟩:=Az la (by omega) c1 ha hb hmn
   obtain ⟨x,y,f⟩:=R
   cases f with
   | true =>
    obtain ⟨C,D,s1,s2,s3,s4,s5,s6⟩:=r2 rfl
    have D0:=s2.fG aW
    have lc:=gC ha s1 s6
    obtain ⟨z,z1,z2⟩:=ih D.toNat (by omega) x y C D rfl (by show x.length<_;have:x.length≤a.length:=lc;omega) s1 s2 s4
    rw [s3] at z2
    refine ⟨z,?_,z2⟩
    refine Ev.step (fun k=>by rw [bE.l0]) ?_
    exact evp (by omega) (Ev.bind r1 (evp rfl z1))
   | false =>
    have q0:=Int.emod_nonneg n (show m≠0 by omega)
    have q1:=Int.emod_lt_of_pos n mp
    obtain ⟨q,r,d1,d2,d3⟩:=iN (by omega) ha hb mp
    obtain ⟨z,z1,z2⟩:=ih (n % m).toNat (by omega) b r m (n % m) rfl (by omega) hb d3 (by omega)
    rw [tK] at z2
    refine ⟨z,?_,z2⟩
    refine Ev.step (fun k=>by rw [bE.l0]) ?_
    exact evp (by omega) (Ev.bind r1 (evn (by simp) (Ev.bind d1 z1)))
  ·by_cases c2:b.length=0
   ·rw [hz.1 c2,rz n0]
    refine ⟨a,?_,ha⟩
    refine Ev.step (fun k=>by rw [bE.l0]) ?_
    exact evn (by omega) (evp (by omega) (evp (by simp;omega) (evs _)))
   ·have mp:0<m:=by
     rcases Int.lt_or_le 0 m with h | h
     ·exact h
     ·have:=hz.2 (by omega)
      omega
    have q0:=Int.emod_nonneg n (show m≠0 by omega)
    have q1:=Int.emod_lt_of_pos n mp
    obtain ⟨q,r,d1,d2,d3⟩:=iN (by omega) ha hb mp
    have hlt:=hb.lt aW
    have h4:=eT (B:=WW) (by decide) (show b.length≤2 by omega)
    have l3:=d3.gP (k:=2) cR (by omega)
    have e1:=gx hb (by omega)
    have e2:=gx d3 l3
    obtain ⟨z,z1,z2⟩:=yv _ m (n % m) rfl m0 (by omega) q0 (by omega)
    rw [tK] at z2
    refine ⟨z,?_,z2⟩
    refine Ev.step (fun k=>by rw [bE.l0]) ?_
    exact evn (by omega) (evn (by omega) (Ev.bind d1 (evb e1 (evb e2 z1))))
theorem yB {a b:List Int} {n m:Int} (la:a.length<1073741824) (lb:b.length<1073741824) (ha:Can WW a n) (hb:Can WW b m):∃ r,Ev (fun k=>bE.f k a b) r∧Can WW r (gI n m):=by
 have hc:=qh (by omega) ha hb
 unfold bE.f
 by_cases c:n<m
 ·obtain ⟨r,r1,r2⟩:=qc _ b a m n rfl lb hb ha (by omega)
  rw [gI_comm] at r2
  refine ⟨r,Ev.bind hc (evp ?_ ?_),r2⟩
  ·unfold ij;rw [if_pos c];omega
  ·exact Ev.step (fun k=>by rw [bE.j0]) r1
 ·obtain ⟨r,r1,r2⟩:=qc _ a b n m rfl la ha hb (by omega)
  refine ⟨r,Ev.bind hc (evn ?_ ?_),r2⟩
  ·unfold ij;rw [if_neg c];split<;>omega
  ·exact Ev.step (fun k=>by rw [bE.j0]) r1
end Go.Proofs.YtfbgaddecbiimaaGreatDoor.P
end
section
namespace Go.Proofs.YtfbgaddecbiimaaGreatDoor.P
open Go.RowKit Go.Proofs.YtfbgaddecbiimaaGreatDoorW.PrintWords Go.Proofs.YtfbgaddecbiimaaGreatDoorW.PrintLast Go.Proofs.YtfbgaddecbiimaaGreatDoorW.PrintMore
set_option linter.unusedVariables false
abbrev TT:Int:=10
theorem TT_pos:(0:Int)<TT:=by decide
theorem TT_one:(1:Int)<TT:=by decide
theorem BK:TT=10:=rfl
abbrev BB9:Int:=1000000000
theorem BM:(0:Int)<BB9:=by decide
theorem xq:BB9=1000000000:=rfl
def asc (D:List Int):List Int:=D.reverse.map (· + 48)
theorem qD (a b:List Int):asc (a++b)=asc b++asc a:=by simp [asc]
theorem kF (D:List Int):(asc D).length=D.length:=by simp [asc]
theorem rev_ev (a:List Int) (hn:a.length<4611686018427387904) (d:Nat):∀ (i:Nat) (o:List Int),a.length-i=d→i≤a.length→o.length=a.length→(∀ p:Nat,p<a.length→rd o (p:Int)=if p<i∨a.length≤p+i then rd a ((a.length-1-p:Nat):Int) else rd a (p:Int)) →
 Ev (fun k=>aS.l1 k o (i:Int) ((a.length:Int)-1-(i:Int))) a.reverse:=by
 induction d with
 | zero =>
  intro i o h1 h2 h3 h4
  have e:o=a.reverse:=by
   apply List.ext_getElem
   ·simp [h3]
   ·intro p p1 p2
    have h:=h4 p (by omega)
    rw [if_pos (by omega),jk o p p1,jk a _ (by omega)] at h
    rw [h,List.getElem_reverse]
  subst e
  refine Ev.step (fun k=>by rw [aS.l1]) ?_
  exact evn (by omega) (evs _)
 | succ d ih =>
  intro i o h1 h2 h3 h4
  by_cases c:2*i+1<a.length
  ·have hk:(a.length:Int)-1-(i:Int)=((a.length-1-i:Nat):Int):=by omega
   have gi:=h4 i (by omega)
   have gk:=h4 (a.length-1-i) (by omega)
   rw [if_neg (by omega)] at gi
   rw [if_neg (by omega)] at gk
   refine Ev.step (fun k=>by rw [aS.l1]) ?_
   rw [hk,gi,gk,j6 (i:=i) (by omega),w64 (x:=((a.length-1-i:Nat):Int)-1) (by omega) (by omega)]
   refine evp (by omega) (evp (by omega) (evp (by omega) (evp (by omega) (evp (by omega) ?_))))
   have e:((a.length-1-i:Nat):Int)-1=(a.length:Int)-1-((i+1:Nat):Int):=by omega
   rw [e]
   refine ih (i+1) _ (by omega) (by omega) (by simpa using h3) ?_
   intro p hp
   by_cases p1:p=a.length-1-i
   ·subst p1
    rw [kV _ _ _ (by simp;omega),if_pos (by omega),show a.length-1-(a.length-1-i)=i by omega]
   ·rw [oi _ _ _ _ (by omega)]
    by_cases p2:p=i
    ·subst p2
     rw [kV _ _ _ (by omega),if_pos (by omega)]
    ·rw [oi _ _ _ _ (by omega),h4 p hp]
     by_cases p3:p<i∨a.length≤p+i
     ·rw [if_pos p3,if_pos (by omega)]
     ·rw [if_neg p3,if_neg (by omega)]
  ·have e:o=a.reverse:=by
    apply List.ext_getElem
    ·simp [h3]
    ·intro p p1 p2
     have h:=h4 p (by omega)
     rw [List.getElem_reverse,← jk o p p1,h,← jk a (a.length-1-p) (by omega)]
     split
     ·rfl
     ·congr 1
      omega
   subst e
   refine Ev.step (fun k=>by rw [aS.l1]) ?_
   exact evn (by omega) (evs _)
theorem rh (l:List Int) (x:Int) (h:x≠0):Nm (l++[x]):=fun h'=>by rw [tI];exact h
theorem alg_dg {vo c P n v c' R:Int} (h:vo+c*P=n) (h2:v+R*c'=c):vo+v*P+c'*(R*P)=n:=by grind
theorem ri {x:Int} (hx:0≤x∧x<9223372036854775808) {m:Nat} (hm:m≤20) (c:Nat):∀ (z:Int) (D:List Int),z.toNat+(m-D.length)<c→0≤z→z<9223372036854775808→D.length≤64→(0<z→z*10 ^ D.length≤x)→Dg TT D→vl TT D+z*TT ^ D.length=x→(z=0→m=0→Nm D)→(x<10 ^ m→D.length≤m) →
 ∃ D',Ev (fun k=>aS.l0 k z (m:Int) (D.map (· + 48))) (asc D')∧Dg TT D'∧vl TT D'=x∧(m=0→Nm D')∧(x<10 ^ m→D'.length=m):=by
 induction c with
 | zero=>intro z D h;exact absurd h (Nat.not_lt_zero _)
 | succ c ih =>
  intro z D h1 h2 h3 h4 h5 h6 h7 h8 h9
  have hlen:(D.map (· + 48)).length=D.length:=by simp
  have more:(z>0∨D.length<m)→∃ D',Ev (fun k=>aS.l0 k (IntKind.u64.wrap (Int.tdiv z 10)) (m:Int) (D.map (· + 48)++[(IntKind.u64.wrap (48+(Int.tmod z 10))) % 256])) (asc D')∧Dg TT D'∧vl TT D'=x∧(m=0→Nm D')∧(x<10 ^ m→D'.length=m):=by
   intro hc
   have e0:(48+z % 10) % 256=z % 10+48:=by omega
   have e1:D.map (· + 48)++[(IntKind.u64.wrap (48+(Int.tmod z 10))) % 256]=(D++[z % 10]).map (· + 48):=by
    rw [fa h2,u64 (x:=48+z % 10) (by omega) (by omega),e0,List.map_append]
    rfl
   rw [e1,eC h2,u64 (x:=z / 10) (by omega) (by omega)]
   have hl:(D++[z % 10]).length=D.length+1:=by simp
   have hlt:D.length<20:=by
    rcases hc with hc | hc
    ·rcases Nat.lt_or_ge D.length 20 with q | q
     ·exact q
     ·exfalso
      have a1:=h5 hc
      have a2:(10:Int) ^ 20≤10 ^ D.length:=eT (by decide) q
      have a3:(1:Int)*10 ^ D.length≤z*10 ^ D.length:=Int.mul_le_mul_of_nonneg_right (by omega) (by omega)
      omega
    ·omega
   refine ih (z / 10) (D++[z % 10]) ?_ (by omega) (by omega) (by omega) ?_ (h6.append (Dg.mk (by omega) (by rw [BK];omega) (Dg.nil _))) ?_ ?_ ?_
   ·rw [hl]
    rcases hc with hc | hc<;>omega
   ·intro hz
    have a1:=h5 (by omega)
    rw [hl,Int.pow_succ]
    have a2:(0:Int)<10 ^ D.length:=Int.pow_pos (by decide)
    have a3:(z / 10*10)*10 ^ D.length≤z*10 ^ D.length:=Int.mul_le_mul_of_nonneg_right (by omega) (by omega)
    have a4:z / 10*(10 ^ D.length*10)=(z / 10*10)*10 ^ D.length:=by grind
    omega
   ·rw [nY,hl,Int.pow_succ,Int.mul_comm (TT ^ D.length) TT]
    exact alg_dg h7 (by rw [BK];omega)
   ·intro hz hm0
    refine rh _ _ ?_
    rcases hc with hc | hc<;>omega
   ·intro hxm
    rw [hl]
    rcases hc with hc | hc
    ·have a1:=h5 hc
     rcases Nat.lt_or_ge D.length m with q | q
     ·omega
     ·exfalso
      have a2:(10:Int) ^ m≤10 ^ D.length:=eT (by decide) q
      have a3:(1:Int)*10 ^ D.length≤z*10 ^ D.length:=Int.mul_le_mul_of_nonneg_right (by omega) (Int.le_of_lt (Int.pow_pos (by decide)))
      omega
    ·omega
  by_cases c1:z>0
  ·obtain ⟨D',d1,d2⟩:=more (.inl c1)
   refine ⟨D',?_,d2⟩
   refine Ev.step (fun k=>by rw [aS.l0]) ?_
   exact evp c1 (evp (by omega) d1)
  ·by_cases c2:D.length<m
   ·obtain ⟨D',d1,d2⟩:=more (.inr c2)
    refine ⟨D',?_,d2⟩
    refine Ev.step (fun k=>by rw [aS.l0]) ?_
    exact evn c1 (evp (by omega) (evp (by omega) d1))
   ·have ez:z=0:=by omega
    subst ez
    rw [Int.zero_mul,Int.add_zero] at h7
    refine ⟨D,?_,h6,h7,h8 rfl,fun h=>by have:=h9 h;omega⟩
    refine Ev.step (fun k=>by rw [aS.l0]) ?_
    rw [w64 (x:=((D.map (· + 48)).length:Int)-1) (by omega) (by omega)]
    refine evn c1 (evn (by omega) ?_)
    have:=rev_ev (D.map (· + 48)) (by omega) _ 0 (D.map (· + 48)) rfl (by omega) rfl (fun p hp=>by rw [if_neg (by omega)])
    rw [← List.map_reverse] at this
    simpa [asc] using this
end Go.Proofs.YtfbgaddecbiimaaGreatDoor.P
end
section
namespace Go.Proofs.YtfbgaddecbiimaaGreatDoor.P
open Go.RowKit Go.Proofs.YtfbgaddecbiimaaGreatDoorW.PrintWords Go.Proofs.YtfbgaddecbiimaaGreatDoorW.PrintLast Go.Proofs.YtfbgaddecbiimaaGreatDoorW.PrintMore
set_option linter.unusedVariables false
theorem lz {x:Int} (hx:0≤x∧x<9223372036854775808) {m:Nat} (hm:m≤20) :
 ∃ D,Ev (fun k=>aS.f k x (m:Int)) (asc D)∧Dg TT D∧vl TT D=x∧(m=0→Nm D)∧(x<10 ^ m→D.length=m):=by
 obtain ⟨D,d1,d2⟩:=ri hx hm _ x [] (Nat.lt_succ_self _) hx.1 hx.2 (by simp) (fun _=>by simp) (Dg.nil _) (by simp [vl]) (fun _ _=>Nm.nil) (fun _=>by simp)
 exact ⟨D,by unfold aS.f;exact d1,d2⟩
theorem tt {r:List Int} {v:Int} (hr:Can WW r v) (hv:v<4294967296):cT.f r=some (v,true):=by
 have hl:=hr.gP (k:=1) cR (by rw [show WW ^ 1=4294967296 from rfl];exact hv)
 unfold cT.f
 by_cases c:r.length=0
 ·rw [(hr.eN aW).1 c,if_pos (by omega)]
 ·have e:=l9 (a:=r) (by omega)
  have h1:r.length=1:=by omega
  rw [hr.2.2,h1] at e
  have e2:v=rd r 0:=by simpa [vl] using e
  have:=hr.fG aW
  rw [if_neg (by omega),if_pos (by omega),if_pos (by omega),← e2,u64 (x:=v) (by omega) (by omega)]
theorem cpy9 {t:List Int} (h:t.length=9):cpy (List.replicate 9 0) t=t:=by
 unfold cpy
 rw [List.length_replicate,h,Nat.min_self,← h,List.take_length,List.drop_eq_nil_of_le (by simp),List.append_nil]
theorem nm_app {a b:List Int} (h:Nm b) (hb:b≠[]):Nm (a++b):=fun h'=>by
 rw [List.getLast_append_of_ne_nil _ hb]
 exact h hb
theorem uV {P:List Int} (hl:P.length≤64) (hP:Dg BB9 P) (d:Nat):∀ (i:Nat) (D:List Int),i=d→i<P.length→Can TT D (vl BB9 (P.drop i))→D≠[]→D.length+9*i≤9*P.length →
 ∃ D',Ev (fun k=>bH.l1 k P (asc D) ((i:Int)-1)) (strOfNums (asc D'),0)∧Can TT D' (vl BB9 P)∧D'≠[]∧D'.length≤9*P.length:=by
 induction d with
 | zero =>
  rintro i D rfl h1 h2 h3 h4
  refine ⟨D,?_,by simpa using h2,h3,by omega⟩
  refine Ev.step (fun k=>by rw [bH.l1]) ?_
  exact evn (by omega) (evs _)
 | succ d ih =>
  rintro i D rfl h1 h2 h3 h4
  have hx:=dH hP (d:Int) (by omega) (by omega)
  rw [xq] at hx
  obtain ⟨N,n1,n2,n3,n4,n5⟩:=lz (x:=rd P (d:Int)) ⟨hx.1,by omega⟩ (m:=9) (by omega)
  have ln:=n5 (by omega)
  have hv:vl TT (N++D)=vl BB9 (P.drop d):=by
   rw [fS,ln,n3,h2.2.2,dS P d (by omega),vl]
   rfl
  have hne:N++D≠[]:=by simp [h3]
  obtain ⟨D',d1,d2⟩:=ih d (N++D) rfl (by omega) ⟨n2.append h2.1,nm_app h2.2.1 h3,hv⟩ hne (by rw [List.length_append];omega)
  refine ⟨D',?_,d2⟩
  refine Ev.step (fun k=>by rw [bH.l1]) ?_
  have lc:(asc N).length=9:=by rw [kF,ln]
  rw [show (((d+1:Nat):Int)-1)=(d:Int) by omega,w64 (x:=(d:Int)-1) (by omega) (by omega)]
  refine evp (by omega) (evp (by omega) (evp (by omega) (evp (by omega) (Ev.bind n1 (evb rfl ?_)))))
  rw [cpy9 lc,← qD]
  exact evp (by rw [kF,kF];omega) d1
theorem alg_tx {vo c P n v c' R:Int} (h:vo+c*P=n) (h2:v+R*c'=c):vo+v*P+c'*(R*P)=n:=by grind
theorem uW {n:Int} (hn:0<n) (hnW:n<WW ^ 40) {b:List Int} (hb:Can WW b 1000000000) (c:Nat):∀ (m:Int) (a P:List Int),m.toNat<c→a.length≤4096→Can WW a m→Dg BB9 P→vl BB9 P+m*BB9 ^ P.length=n→(m=0→Nm P)→(m=0→P.length≤46) →
 ∃ D,Ev (fun k=>bH.l0 k a P b) (strOfNums (asc D),0)∧Can TT D n∧D≠[]∧D.length≤576:=by
 induction c with
 | zero=>intro m a P h;exact absurd h (Nat.not_lt_zero _)
 | succ c ih =>
  intro m a P h1 h2 h3 h4 h5 h6 h7
  have m0:=h3.fG aW
  have hp:(0:Int)<BB9 ^ P.length:=fO BM _
  by_cases c1:a.length=0
  ·have em:=(h3.eN aW).1 c1
   subst em
   rw [Int.zero_mul,Int.add_zero] at h5
   have hl:=h7 rfl
   have hne:P.length≠0:=by
    intro h0
    rw [List.length_eq_zero_iff.1 h0,vl] at h5
    omega
   have hx:=dH h4 ((P.length:Int)-1) (by omega) (by omega)
   have hz:=(h6 rfl).rd (by omega)
   rw [xq] at hx
   obtain ⟨N,n1,n2,n3,n4,n5⟩:=lz (x:=rd P ((P.length:Int)-1)) ⟨hx.1,by omega⟩ (m:=0) (by omega)
   have hN:N≠[]:=by
    intro h
    rw [h,vl] at n3
    exact hz n3.symm
   have cn:Can TT N (rd P ((P.length:Int)-1)):=⟨n2,n4 rfl,n3⟩
   have ln:N.length≤9:=cn.gP TT_one (by rw [show TT ^ 9=1000000000 from rfl];exact hx.2)
   have e1:vl BB9 (P.drop (P.length-1))=rd P ((P.length:Int)-1):=by
    rw [dS P (P.length-1) (by omega),vl,List.drop_eq_nil_of_le (by omega),vl,show ((P.length-1:Nat):Int)=(P.length:Int)-1 by omega]
    omega
   obtain ⟨D',d1,d2,d3,d4⟩:=uV (by omega) h4 (P.length-1) (P.length-1) N rfl (by omega) (by rw [e1];exact cn) hN (by omega)
   rw [h5] at d2
   refine ⟨D',?_,d2,d3,by omega⟩
   refine Ev.step (fun k=>by rw [bH.l0]) ?_
   rw [w64 (x:=(P.length:Int)-1) (by omega) (by omega),w64 (x:=(P.length:Int)-2) (by omega) (by omega)]
   refine evn (by omega) (evp (by omega) (evp (by omega) (Ev.bind n1 ?_)))
   rw [show (P.length:Int)-2=((P.length-1:Nat):Int)-1 by omega]
   exact d1
  ·have hm:m≠0:=fun h=>c1 ((h3.eN aW).2 h)
   have hlP:P.length≤45:=by
    rcases Nat.lt_or_ge P.length 46 with q | q
    ·omega
    ·exfalso
     have a1:BB9 ^ 46≤BB9 ^ P.length:=eT (by decide) q
     have a2:(1:Int)*BB9 ^ P.length≤m*BB9 ^ P.length:=Int.mul_le_mul_of_nonneg_right (by omega) (by omega)
     have a3:=bX BM h4
     have a4:WW ^ 40<BB9 ^ 46:=by decide
     omega
   obtain ⟨q,r,q1,q2,q3⟩:=iN (by omega) h3 hb (by omega)
   have r0:=Int.emod_nonneg m (show (1000000000:Int)≠0 by omega)
   have r1:=Int.emod_lt_of_pos m (show (0:Int)<1000000000 by omega)
   have hs:=tt q3 (by omega)
   have lq:=gC h3 q2 (by omega)
   obtain ⟨D,d1,d2⟩:=ih (m / 1000000000) q (P++[m % 1000000000]) (by omega) (by omega) q2 (h4.append (Dg.mk r0 (by rw [xq];exact r1) (Dg.nil _)))
    (by
     rw [nY,List.length_append,List.length_singleton,Int.pow_succ,Int.mul_comm (BB9 ^ P.length) BB9]
     exact alg_tx h5 (by rw [xq];omega))
    (fun h=>rh _ _ (by omega)) (fun _=>by simp;omega)
   refine ⟨D,?_,d2⟩
   refine Ev.step (fun k=>by rw [bH.l0]) ?_
   exact evp (by omega) (Ev.bind q1 (evb hs (evp (by omega) d1)))
theorem uU {a:List Int} {n:Int} (hl:a.length≤40) (ha:Can WW a n) (hn:0<n):∃ D,Ev (fun k=>bH.f k a) (strOfNums (asc D),0)∧Can TT D n∧D≠[]∧D.length≤576:=by
 have hlt:n<WW ^ 40:=Int.lt_of_lt_of_le (ha.lt aW) (eT (by decide) hl)
 have hc:a.length≠0:=fun h=>by have:=(ha.eN aW).1 h;omega
 obtain ⟨b,b1,b2⟩:=eL (a:=1000000000) (by omega) (by omega)
 obtain ⟨D,d1,d2⟩:=uW hn hlt b2 _ n a [] (Nat.lt_succ_self _) (by omega) ha (Dg.nil _) (by simp [vl]) (fun h=>by omega) (fun h=>by omega)
 refine ⟨D,?_,d2⟩
 unfold bH.f
 exact evb (Ap (by omega) ha.2.1) (evp rfl (evn (by omega) (Ev.bind b1 d1)))
end Go.Proofs.YtfbgaddecbiimaaGreatDoor.P
end
section
namespace Go.Proofs.YtfbgaddecbiimaaGreatDoor.P
open Go.RowKit Go.Proofs.YtfbgaddecbiimaaGreatDoorW.PrintWords Go.Proofs.YtfbgaddecbiimaaGreatDoorW.PrintLast Go.Proofs.YtfbgaddecbiimaaGreatDoorW.PrintMore
set_option linter.unusedVariables false
def Dig (s:ByteArray) (i:Nat):Prop:=48≤bt s (i:Int)∧bt s (i:Int)≤57
def sv (s:ByteArray):Nat→Int
 | 0=>0
 | i+1=>sv s i*10+(bt s (i:Int)-48)
end Go.Proofs.YtfbgaddecbiimaaGreatDoor.P
end
section
namespace Go.Proofs.YtfbgaddecbiimaaGreatDoor.P
open Go.RowKit Go.Proofs.YtfbgaddecbiimaaGreatDoorW.PrintWords Go.Proofs.YtfbgaddecbiimaaGreatDoorW.PrintLast Go.Proofs.YtfbgaddecbiimaaGreatDoorW.PrintMore
set_option linter.unusedVariables false
theorem vN {a D:List Int} {v:Int} {i:Nat} {e:Int} {R:ByteArray} (hi:i<a.length) (ha:Dg RR a) (hl:D.length<1099511627776) (he:0<e) (he2:e≤1000) (hD:Can TT D v)
 (h:∀ D',Can TT D' (v*10+rd a (i:Int) / e % 10)→D'.length≤D.length+1→Ev (fun k=>aw.l1 k a (asc D') (i:Int) (e / 10)) R):Ev (fun k=>aw.l1 k a (asc D) (i:Int) e) R:=by
 have hx:=dH ha (i:Int) (by omega) (by omega)
 rw [eG] at hx
 have q0:0≤rd a (i:Int) / e:=Int.ediv_nonneg hx.1 (by omega)
 have q1:rd a (i:Int) / e≤rd a (i:Int):=Int.ediv_le_self _ hx.1
 have d0:=Int.emod_nonneg (rd a (i:Int) / e) (show (10:Int)≠0 by omega)
 have d1:=Int.emod_lt_of_pos (rd a (i:Int) / e) (show (0:Int)<10 by omega)
 have em:(48+rd a (i:Int) / e % 10) % 256=rd a (i:Int) / e % 10+48:=by omega
 refine Ev.step (fun k=>by rw [aw.l1]) ?_
 rw [eC hx.1,w64 (x:=rd a (i:Int) / e) (by omega) (by omega),fa q0,eC (Int.le_of_lt he),w64 (x:=e / 10) (by omega) (by omega),w64 (x:=48+rd a (i:Int) / e % 10) (by omega) (by omega),em,kF]
 generalize rd a (i:Int) / e % 10=d at *
 refine evp he (evp (by omega) (evp (by omega) (evn (by omega) ?_)))
 have e1:asc D++[d+48]=asc ([d]++D):=by rw [qD];rfl
 have dd:Dg TT ([d]++D):=Dg.append (Dg.mk d0 (by rw [BK];exact d1) (Dg.nil _)) hD.1
 have vv:vl TT ([d]++D)=v*10+d:=by
  show d+10*vl TT D=v*10+d
  rw [hD.2.2];omega
 by_cases c1:0<D.length
 ·rw [e1]
  have:=h ([d]++D) ⟨dd,nm_app hD.2.1 (fun h0=>by rw [h0] at c1;simp at c1),vv⟩ (by simp)
  exact evp (by omega) (evp (by omega) this)
 ·have hn:D=[]:=List.eq_nil_of_length_eq_zero (by omega)
  by_cases c2:d>0
  ·rw [e1]
   have:=h ([d]++D) ⟨dd,by subst hn;exact rh [] d (by omega),vv⟩ (by simp)
   exact evn (by omega) (evp c2 (evp (by omega) this))
  ·have ed:d=0:=by omega
   have ev:v=0:=by rw [← hD.2.2,hn];rfl
   subst ed
   have:=h D (by rw [ev] at hD ⊢;exact hD) (by omega)
   exact evn (by omega) (evn (by omega) this)
theorem zX {a Z:List Int} {n:Int} (hn:a.length<68719476736) (ha:Can RR a n) (hZ:Can TT Z n) (d:Nat):∀ (i:Nat) (D:List Int),i=d→i≤a.length→Can TT D (vl RR (a.drop i))→D.length+4*i≤4*a.length →
 Ev (fun k=>aw.l0 k a (asc D) ((i:Int)-1)) (strOfNums (asc Z)):=by
 induction d with
 | zero =>
  rintro i D rfl h1 h2 h3
  rw [List.drop_zero,ha.2.2] at h2
  have:=cV TT_pos h2 hZ
  subst this
  refine Ev.step (fun k=>by rw [aw.l0]) ?_
  exact evn (by omega) (evs _)
 | succ d ih =>
  rintro i D rfl h1 h2 h3
  have hx:=dH ha.1 (d:Int) (by omega) (by omega)
  rw [eG] at hx
  refine Ev.step (fun k=>by rw [aw.l0]) ?_
  rw [show (((d+1:Nat):Int)-1)=(d:Int) by omega]
  refine evp (by omega) ?_
  refine vN (by omega) ha.1 (by omega) (by omega) (by omega) h2 (fun D1 c1 l1=>?_)
  rw [show (1000:Int) / 10=100 from rfl]
  refine vN (by omega) ha.1 (by omega) (by omega) (by omega) c1 (fun D2 c2 l2=>?_)
  rw [show (100:Int) / 10=10 from rfl]
  refine vN (by omega) ha.1 (by omega) (by omega) (by omega) c2 (fun D3 c3 l3=>?_)
  rw [show (10:Int) / 10=1 from rfl]
  refine vN (by omega) ha.1 (by omega) (by omega) (by omega) c3 (fun D4 c4 l4=>?_)
  rw [show (1:Int) / 10=0 from rfl]
  refine Ev.step (fun k=>by rw [aw.l1]) ?_
  rw [w64 (x:=(d:Int)-1) (by omega) (by omega)]
  refine evn (by omega) (ih d D4 rfl (by omega) ?_ (by omega))
  rw [dS a d (by omega),vl]
  have e:((((vl RR (a.drop (d+1))*10+rd a (d:Int) / 1000 % 10)*10+rd a (d:Int) / 100 % 10)*10+rd a (d:Int) / 10 % 10)*10+rd a (d:Int) / 1 % 10)=rd a (d:Int)+RR*vl RR (a.drop (d+1)):=by rw [eG];omega
  rw [← e]
  exact c4
theorem zW {a Z:List Int} {n:Int} (hn:a.length<68719476736) (ha:Can RR a n) (hZ:Can TT Z n) (hp:0<n):Ev (fun k=>aw.f k a) (strOfNums (asc Z)):=by
 have hc:a.length≠0:=fun h=>by have:=(ha.eN cP).1 h;omega
 have h:=zX hn ha hZ a.length a.length [] rfl (Nat.le_refl _) (by rw [List.drop_length];exact Can.zero _) (by simp)
 unfold aw.f
 rw [w64 (x:=(a.length:Int)-1) (by omega) (by omega)]
 exact evn (by omega) h
end Go.Proofs.YtfbgaddecbiimaaGreatDoor.P
end
section
namespace Go.Proofs.YtfbgaddecbiimaaGreatDoor.Q
open Go.RowKit Go.Proofs.YtfbgaddecbiimaaGreatDoorW.PrintWords Go.Proofs.YtfbgaddecbiimaaGreatDoorW.PrintMore Go.Proofs.YtfbgaddecbiimaaGreatDoor.V Go.Proofs.YtfbgaddecbiimaaGreatDoor.E
open Go.Proofs.YtfbgaddecbiimaaGreatDoor.P (Dg Nm vl WW RR cV gI evs evk evb ij aW cR)
set_option linter.unusedVariables false
theorem bT {α:Type} {c:Bool} {f g:Nat→Option α} {r:α} (hc:c=true) (h:Ev f r):Ev (fun k=>bif c then f k else g k) r:=by subst hc;exact h
theorem bF {α:Type} {c:Bool} {f g:Nat→Option α} {r:α} (hc:c=false) (h:Ev g r):Ev (fun k=>bif c then f k else g k) r:=by subst hc;exact h
theorem iT {α:Type} {c:Prop} [Decidable c] {f:Nat→Option α} {r:α} (hc:c) (h:Ev f r):Ev (fun k=>if c then f k else none) r:=by simpa only [if_pos hc] using h
theorem evmap {α β:Type} {f:Nat→Option α} {g:α→β} {r:α} (h:Ev f r):Ev (fun k=>(f k).map g) (g r):=by
 obtain ⟨K,h⟩:=h
 exact ⟨K,fun k hk=>by simp only [h k hk,Option.map_some]⟩
def sg (s:Bool) (x:Int):Int:=if s then -x else x
def RB (B:Int) (v:gj) (q:Rat):Prop:=v.1=decide (q.num<0)∧P.Can B v.2.1 (q.num.natAbs:Int)∧P.Can B v.2.2.1 (q.den:Int)
theorem can1 {B:Int} (h:1<B):P.Can B [1] 1:=⟨Dg.mk (by decide) h (Dg.nil _),fun h=>by simp,by simp [vl]⟩
theorem AQ (x y:Int):((y.gcd x:Nat):Int)=gI x y:=by unfold gI;rw [Int.gcd_comm]
theorem rb_frac {B:Int} {s:Bool} {l d:List Int} {x y:Int} (hx:0<x) (hy:0<y) (hl:P.Can B l (x / gI x y)) (hd:P.Can B d (y / gI x y)):RB B (s,l,d,()) (Rat.divInt (sg s x) y):=by
 have hg:0<gI x y:=by
  unfold gI
  have:=Int.gcd_pos_of_ne_zero_left y (show x≠0 by omega)
  omega
 have hgx:gI x y ∣ x:=Int.gcd_dvd_left ..
 have hgy:gI x y ∣ y:=Int.gcd_dvd_right ..
 have hq:0<x / gI x y:=Int.ediv_pos_of_pos_of_dvd hx (by omega) hgx
 have hr:0<y / gI x y:=Int.ediv_pos_of_pos_of_dvd hy (by omega) hgy
 have hsg:((y.gcd (sg s x):Nat):Int)=gI x y:=by
  unfold sg
  cases s with
  | true=>simp only [if_true,Int.gcd_neg];exact AQ x y
  | false=>exact AQ x y
 have hnum:(Rat.divInt (sg s x) y).num=sg s (x / gI x y):=by
  rw [Rat.num_divInt,hsg,Int.sign_eq_one_of_pos hy,Int.one_mul]
  unfold sg
  cases s with
  | true=>simp only [if_true];exact Int.neg_ediv_of_dvd hgx
  | false=>rfl
 have hden:((Rat.divInt (sg s x) y).den:Int)=y / gI x y:=by
  rw [Rat.den_divInt,if_neg (by omega),Int.natCast_ediv,hsg]
  congr 1
  omega
 refine ⟨?_,?_,?_⟩
 ·show s=_
  rw [hnum]
  unfold sg
  cases s with
  | true=>simp only [if_true];exact (decide_eq_true (by omega)).symm
  | false=>exact (decide_eq_false (by simp;omega)).symm
 ·show P.Can B l _
  rw [hnum]
  have:((sg s (x / gI x y)).natAbs:Int)=x / gI x y:=by
   unfold sg
   cases s with
   | true=>simp only [if_true];omega
   | false=>simp;omega
  rw [this]
  exact hl
 ·show P.Can B d _
  rw [hden]
  exact hd
theorem den_pos' (q:Rat):(0:Int)<q.den:=by have:=q.den_pos;omega
def Sz (B:Int) (K:Nat) (q:Rat):Prop:=(q.num.natAbs:Int)<B ^ K∧(q.den:Int)<B ^ K
theorem zp {B:Int} (hB:0<B) {v:gj} {q:Rat} (h:RB B v q) {K:Nat} (h1:v.2.1.length≤K) (h2:v.2.2.1.length≤K):Sz B K q :=
 ⟨Int.lt_of_lt_of_le (h.2.1.lt hB) (P.eT (by omega) h1),Int.lt_of_lt_of_le (h.2.2.lt hB) (P.eT (by omega) h2)⟩
theorem mB {B:Int} (hB:1<B) {v:gj} {q:Rat} (h:RB B v q) {K:Nat} (hs:Sz B K q):v.2.1.length≤K∧v.2.2.1.length≤K:=⟨h.2.1.gP hB hs.1,h.2.2.gP hB hs.2⟩
theorem zq {B:Int} (hB:0<B) {q:Rat} {K L:Nat} (hs:Sz B K q) (h:K≤L):Sz B L q:=⟨Int.lt_of_lt_of_le hs.1 (P.eT (by omega) h),Int.lt_of_lt_of_le hs.2 (P.eT (by omega) h)⟩
end Go.Proofs.YtfbgaddecbiimaaGreatDoor.Q
end
section
namespace Go.Proofs.YtfbgaddecbiimaaGreatDoor.Q
open Go.RowKit Go.Proofs.YtfbgaddecbiimaaGreatDoorW.PrintWords Go.Proofs.YtfbgaddecbiimaaGreatDoorW.PrintMore Go.Proofs.YtfbgaddecbiimaaGreatDoor.V Go.Proofs.YtfbgaddecbiimaaGreatDoor.E
open Go.Proofs.YtfbgaddecbiimaaGreatDoor.P (Dg Nm vl WW RR cV gI evs evk evb ij aW cR w64 u64)
set_option linter.unusedVariables false
section
variable {a b:List Int} {n m:Int}
theorem q_GCD (la:a.length<1073741824) (lb:b.length<1073741824) (ha:P.Can WW a n) (hb:P.Can WW b m):∃ r,Ev (fun k=>bE k a b) r∧P.Can WW r (gI n m):=by
 obtain ⟨r,h1,h2⟩:=P.yB la lb ha hb
 exact ⟨r,Ev.step (fun k=>yC k a b) h1,h2⟩
theorem wF {B:Int} (hB:0<B) {l:List Int} {x:Int} (h:P.Can B l x) (hx:x≠0):((List.length l:Int)==(0:Int))=false:=by
 have:=h.eN hB
 have:l.length≠0:=fun e=>hx (this.1 e)
 simp
 intro e
 exact this (by simp [e])
theorem len_eq {B:Int} (hB:0<B) {l:List Int} {x:Int} (h:P.Can B l x) (hx:x=0):l=[]:=(h.An hB).2 hx
end
end Go.Proofs.YtfbgaddecbiimaaGreatDoor.Q
end
section
namespace Go.Proofs.YtfbgaddecbiimaaGreatDoor.Q
open Go.RowKit Go.Proofs.YtfbgaddecbiimaaGreatDoorW.PrintWords Go.Proofs.YtfbgaddecbiimaaGreatDoorW.PrintMore Go.Proofs.YtfbgaddecbiimaaGreatDoor.V Go.Proofs.YtfbgaddecbiimaaGreatDoor.E
open Go.Proofs.YtfbgaddecbiimaaGreatDoor.P (Dg Nm vl WW RR cV gI evs evk evb ij aW cR cP w64 u64)
set_option linter.unusedVariables false
def Ev2 {α:Type} (g:Nat→Nat→Option α) (r:α):Prop:=∃ K,∀ k m,K≤k→K≤m→g k m=some r
section
variable {α β:Type} {g f:Nat→Nat→Option α} {r:α}
theorem Ev2.diag (h:Ev2 g r):Ev (fun k=>g k k) r:=by
 obtain ⟨K,h⟩:=h
 exact ⟨K,fun k hk=>h k k hk hk⟩
theorem Ev2.step (h:∀ k m,g k (m+1)=f k m) (k:Ev2 f r):Ev2 g r:=by
 obtain ⟨K,k⟩:=k
 refine ⟨K+1,fun n m hn hm=>?_⟩
 obtain ⟨q,rfl⟩:∃ q,m=q+1:=⟨m-1,by omega⟩
 rw [h]
 exact k n q (by omega) (by omega)
theorem Ev2.bind {g:Nat→Option β} {f:Nat→Nat→β→Option α} {a:β} (h:Ev g a) (k:Ev2 (fun n m=>f n m a) r):Ev2 (fun n m=>(g n).bind (f n m)) r:=by
 obtain ⟨K,h⟩:=h
 obtain ⟨K',k⟩:=k
 refine ⟨max K K',fun n m hn hm=>?_⟩
 have h1:=h n (by omega)
 simp only [h1,Option.bind_some]
 exact k n m (by omega) (by omega)
theorem Ev2.bT {c:Bool} (hc:c=true) (h:Ev2 f r):Ev2 (fun k m=>bif c then f k m else g k m) r:=by subst hc;exact h
theorem Ev2.bF {c:Bool} (hc:c=false) (h:Ev2 g r):Ev2 (fun k m=>bif c then f k m else g k m) r:=by subst hc;exact h
theorem Ev2.iT {c:Prop} [Decidable c] (hc:c) (h:Ev2 f r):Ev2 (fun k m=>if c then f k m else none) r:=by simpa only [if_pos hc] using h
theorem Ev2.of {g:Nat→Option α} (h:Ev g r):Ev2 (fun k _=>g k) r:=by
 obtain ⟨K,h⟩:=h
 exact ⟨K,fun k m hk _=>h k hk⟩
end
theorem kp:(1:Int)<RR:=by decide
section
variable {a b:List Int} {n m:Int}
theorem s_Cmp (hn:a.length<4611686018427387904) (ha:P.Can RR a n) (hb:P.Can RR b m):Ev (fun k=>an k a b) (ij n m):=Ev.step (fun k=>jB k a b) (P.cO hn ha hb)
theorem s_GCD (la:a.length<1073741824) (lb:b.length<1073741824) (ha:P.Can RR a n) (hb:P.Can RR b m):∃ r,Ev (fun k=>ak k a b) r∧P.Can RR r (gI n m):=by
 obtain ⟨r,h1,h2⟩:=P.r_GCD_sp la lb ha hb
 exact ⟨r,Ev.step (fun k=>jz k a b) h1,h2⟩
theorem zH {k0 c0:Int} (hn:a.length<549755813888) (ha:P.Can RR a n) (hk:0≤k0∧k0≤65536) (hc:0≤c0∧c0≤65536):∃ r,Ev (fun k=>ah k a k0 c0) r∧P.Can RR r (n*k0+c0)∧r.length≤a.length+2:=by
 obtain ⟨r,h1,h2⟩:=P.gB hn ha hk hc
 exact ⟨r,Ev.step (fun k=>iU k a k0 c0) h1,h2⟩
theorem rdT_rd (l:List Int) (i:Int):(rdT (t:=(.int .u32)) l i:Int)=rd l i:=rfl
theorem s_Of_ev {a:List Int} (hn:a.length<137438953472) (ha:Dg WW a) (d:Nat):∀ (i:Nat) (o:List Int),i=d→i≤a.length→P.Can RR o (vl WW (a.drop i))→o.length≤4*(a.length-i)→∃ r,Ev2 (fun k m=>bJ.l0 k m a o ((i:Int)-1)) r∧P.Can RR r (vl WW a)∧r.length≤4*a.length:=by
 induction d with
 | zero =>
  rintro i o rfl h1 h2 h3
  exact ⟨o,Ev2.step (fun k m=>bJ.cF k m _ _ _) (Ev2.bF (decide_eq_false (by omega)) (Ev2.of (evs _))),by simpa using h2,by omega⟩
 | succ d ih =>
  rintro i o rfl h1 h2 h3
  have e1:(((d+1:Nat):Int)-1)=(d:Int):=by omega
  have hx:=P.dH ha (d:Int) (by omega) (by omega)
  rw [P.cU] at hx
  obtain ⟨p,h4,h5,h6⟩:=zH (k0:=65536) (c0:=rd a d / 65536) (by omega) h2 (by omega) (by omega)
  obtain ⟨q,h7,h8,h9⟩:=zH (k0:=65536) (c0:=rd a d % 65536) (by omega) h5 (by omega) (by omega)
  have ea:a.drop d=rd a d :: a.drop (d+1):=by rw [P.jk a d (by omega)];exact (List.drop_eq_getElem_cons (by omega))
  have ev:(vl WW (a.drop (d+1))*65536+rd a d / 65536)*65536+rd a d % 65536=vl WW (a.drop d):=by
   rw [ea,vl,P.cU]
   omega
  rw [ev] at h8
  obtain ⟨r,h10,h11⟩:=ih d q rfl (by omega) h8 (by omega)
  refine ⟨r,Ev2.step (fun k m=>bJ.cF k m _ _ _) ?_,h11⟩
  have e2:shr .u32 (rd a (d:Int)) 16=rd a d / 65536:=rfl
  rw [e1]
  simp only [rdT_rd]
  rw [e2,P.and16 hx.1 hx.2,w64 (x:=rd a d / 65536) (by omega) (by omega),w64 (x:=rd a d % 65536) (by omega) (by omega),w64 (x:=(d:Int)-1) (by omega) (by omega)]
  exact Ev2.bT (decide_eq_true (by omega)) (Ev2.iT (by omega) (Ev2.bind h4 (Ev2.iT (by omega) (Ev2.bind h7 h10))))
theorem s_Of {a:List Int} {n:Int} (hn:a.length<137438953472) (ha:P.Can WW a n):∃ r,Ev (fun k=>bJ k a) r∧P.Can RR r n∧r.length≤4*a.length:=by
 obtain ⟨r,h1,h2⟩:=s_Of_ev hn ha.1 a.length a.length [] rfl (Nat.le_refl _) (by rw [List.drop_length];exact P.Can.zero _) (by simp)
 rw [ha.2.2] at h2
 refine ⟨r,Ev.step (fun k=>ka k a) ?_,h2⟩
 rw [w64 (x:=(a.length:Int)-1) (by omega) (by omega)]
 exact h1.diag
end
end Go.Proofs.YtfbgaddecbiimaaGreatDoor.Q
end
section
namespace Go.Proofs.YtfbgaddecbiimaaGreatDoor.Q
open Go.RowKit Go.Proofs.YtfbgaddecbiimaaGreatDoorW.PrintWords Go.Proofs.YtfbgaddecbiimaaGreatDoorW.PrintMore Go.Proofs.YtfbgaddecbiimaaGreatDoor.V Go.Proofs.YtfbgaddecbiimaaGreatDoor.E
open Go.Proofs.YtfbgaddecbiimaaGreatDoor.P (Dg Nm vl WW RR cV gI evs evk evb ij aW cR cP w64 u64)
set_option linter.unusedVariables false
section
variable {a b:List Int} {n m:Int} {v w:gj} {p q:Rat} {K L:Nat}
theorem mc {l:List Int} {z:Int} (h:P.Can WW l z):(bif (List.length l:Int)==(1:Int) then if 0≤(0:Int)∧(0:Int)<(List.length l:Int) then some ((rdT (t:=(.int .u32)) l (0:Int):Int)==(1:Int)) else none else some false)=some (decide (z=1)):=by
 match l,h with
 | [],h =>
  have:z=0:=by have:=h.2.2;simp [vl] at this;exact this.symm
  subst this
  rfl
 | [x],h =>
  have hx:x=z:=by have:=h.2.2;simp [vl] at this;exact this
  have hr:(rdT (t:=(.int .u32)) [x] (0:Int):Int)=x:=rfl
  rw [hr,hx]
  simp
  by_cases c:z=1<;>simp [c]
 | x :: y :: t,h =>
  have h1:((List.length (x :: y :: t):Int)==(1:Int))=false:=by simp;omega
  have h2:WW≤z:=by
   have:=h.ge aW (by simp)
   refine Int.le_trans ?_ this
   have:=P.eT (B:=WW) (by decide) (i:=1) (j:=(x :: y :: t).length-1) (by simp)
   rw [Int.pow_succ,Int.pow_zero,Int.one_mul] at this
   exact this
  have:WW=4294967296:=rfl
  rw [h1,decide_eq_false (by omega)]
  rfl
theorem sJ (hv:RB WW v p) (hp:Sz WW K p) (h:K<1073741824):∃ r,Ev (fun k=>dP k v) r∧RB RR r p∧Sz RR (4*K) p:=by
 obtain ⟨lv1,lv2⟩:=mB cR hv hp
 obtain ⟨x,x1,x2,x3⟩:=s_Of (by omega) hv.2.1
 obtain ⟨y,y1,y2,y3⟩:=s_Of (by omega) hv.2.2
 have hr:RB RR (v.1,x,y,()) p:=⟨hv.1,x2,y2⟩
 exact ⟨_,Ev.step (fun k=>j9 k v) (Ev.bind x1 (Ev.bind y1 (evs _))),hr,zp cP hr (by simp;omega) (by simp;omega)⟩
end
end Go.Proofs.YtfbgaddecbiimaaGreatDoor.Q
end
section
namespace Go.Proofs.YtfbgaddecbiimaaGreatDoor.Q
open Go.RowKit Go.Proofs.YtfbgaddecbiimaaGreatDoorW.PrintWords Go.Proofs.YtfbgaddecbiimaaGreatDoorW.PrintMore Go.Proofs.YtfbgaddecbiimaaGreatDoor.V Go.Proofs.YtfbgaddecbiimaaGreatDoor.E
open Go.Proofs.YtfbgaddecbiimaaGreatDoor.P (Dg Nm vl WW RR cV gI evs evk evb ij aW cR cP w64 u64)
set_option linter.unusedVariables false
def Arg (v:gj):Prop:=Dg WW v.2.1∧Dg WW v.2.2.1∧True∧True
def Vd (v:gj):Prop:=∃ q,RB WW v q∧Sz WW 4096 q
section
variable {v w:gj} {p q:Rat} {K L:Nat}
theorem vh (q:Rat):gI (q.num.natAbs:Int) q.den=1:=by
 unfold P.gI
 have:=q.reduced
 unfold Nat.Coprime at this
 simp only [Int.gcd,Int.natAbs_natCast,this]
 rfl
theorem zh {s:Bool} {a b:List Int} (da:Dg WW a) (db:Dg WW b):(∃ q,RB WW (s,a,b,()) q)↔Nm a∧Nm b∧vl WW b≠0∧(vl WW a=0→s=false∧vl WW b=1)∧(vl WW a≠0→gI (vl WW a) (vl WW b)=1):=by
 constructor
 ·rintro ⟨q,h1,h2,h3⟩
  have e2:vl WW a=(q.num.natAbs:Int):=h2.2.2
  have e3:vl WW b=(q.den:Int):=h3.2.2
  have dp:=den_pos' q
  refine ⟨h2.2.1,h3.2.1,by omega,fun h=>?_,fun h=>?_⟩
  ·have h0:q=0:=Rat.num_eq_zero.1 (by omega)
   refine ⟨?_,?_⟩
   ·have:s=decide (q.num<0):=h1
    rw [this,h0];rfl
   ·rw [e3,h0];rfl
  ·rw [e2,e3]
   exact vh q
 ·rintro ⟨na,nb,hb,h0,h1⟩
  have a0:=P.bX aW da
  have b0:=P.bX aW db
  by_cases c:vl WW a=0
  ·obtain ⟨rfl,e⟩:=h0 c
   refine ⟨0,rfl,?_,?_⟩
   ·exact ⟨da,na,c⟩
   ·exact ⟨db,nb,e⟩
  ·have g:=h1 c
   refine ⟨Rat.divInt (sg s (vl WW a)) (vl WW b),rb_frac (by omega) (by omega) ?_ ?_⟩
   ·rw [g,Int.ediv_one];exact ⟨da,na,rfl⟩
   ·rw [g,Int.ediv_one];exact ⟨db,nb,rfl⟩
theorem vd_iff (ha:Arg v):Vd v↔v.2.1.length≤4096∧v.2.2.1.length≤4096∧Nm v.2.1∧Nm v.2.2.1∧vl WW v.2.2.1≠0∧(vl WW v.2.1=0→v.1=false∧vl WW v.2.2.1=1)∧(vl WW v.2.1≠0→gI (vl WW v.2.1) (vl WW v.2.2.1)=1):=by
 obtain ⟨s,a,b,_⟩:=v
 have h:=zh (s:=s) ha.1 ha.2.1
 constructor
 ·rintro ⟨q,h1,h2⟩
  obtain ⟨l1,l2⟩:=mB cR h1 h2
  exact ⟨l1,l2,h.1 ⟨q,h1⟩⟩
 ·rintro ⟨l1,l2,h3⟩
  obtain ⟨q,hq⟩:=h.2 h3
  exact ⟨q,hq,zp aW hq l1 l2⟩
theorem mT (l:List Int) (hl:True):∃ t,Ev (fun k=>fX k l 4096) t∧(t=true↔l.length≤4096∧Nm l):=by
 by_cases h1:l.length≤4096
 ·by_cases h0:l.length=0
  ·have:l=[]:=List.eq_nil_of_length_eq_zero h0
   subst this
   exact ⟨true,Ev.step (fun k=>eY k _ _) (Ev.bind (bT rfl (Ev.bind (bT rfl (evs _)) (evs _))) (evs _)),by simp;exact P.Nm.nil⟩
  ·have e:wrap64 ((l.length:Int)-1)=(l.length:Int)-1:=w64 (by omega) (by omega)
   refine ⟨rd l ((l.length:Int)-1) != 0,Ev.step (fun k=>eY k _ _) (Ev.bind (bT (decide_eq_true (by omega)) (Ev.bind (bF (by simp;intro e;exact h0 (by simp [e])) ?_) (evs _))) (evs _)),?_⟩
   ·rw [e]
    exact iT (by omega) (evs _)
   ·simp only [bne_iff_ne]
    exact ⟨fun h=>⟨h1,P.jS (fun _=>h)⟩,fun h=>h.2.rd (by omega)⟩
 ·exact ⟨false,Ev.step (fun k=>eY k _ _) (Ev.bind (bF (decide_eq_false (by omega)) (evs _)) (evs _)),by simp;omega⟩
theorem vl0_iff {l:List Int} (hd:Dg WW l) (hn:Nm l):l.length=0↔vl WW l=0:=(show P.Can WW l (vl WW l) from ⟨hd,hn,rfl⟩).eN aW
theorem mq {l:List Int} (hd:Dg WW l) (hn:Nm l):((List.length l:Int)==(0:Int))=decide (vl WW l=0):=by
 by_cases c:vl WW l=0
 ·have:=(vl0_iff hd hn).2 c
  rw [decide_eq_true c];simp [List.eq_nil_of_length_eq_zero this]
 ·rw [decide_eq_false c];exact wF aW ⟨hd,hn,rfl⟩ c
theorem sK (ha:Arg v):∃ t,Ev (fun k=>kY k v) t∧(t=true↔Vd v):=by
 have hiff:=vd_iff ha
 obtain ⟨da,db,la,lb⟩:=ha
 obtain ⟨s,a,b,_⟩:=v
 obtain ⟨t1,e1,i1⟩:=mT a la
 obtain ⟨t2,e2,i2⟩:=mT b lb
 refine (show ∃ t,Ev (fun k=>de k (s,a,b,()) 4096) t∧(t=true↔Vd (s,a,b,())) from ?_).elim fun t h=>⟨t,Ev.step (fun k=>sM k _) (Ev.bind h.1 (evs _)),h.2⟩
 by_cases c1:a.length≤4096∧Nm a
 ·by_cases c2:b.length≤4096∧Nm b
  ·obtain rfl:=i1.2 c1
   obtain rfl:=i2.2 c2
   have hb0:=mq db c2.2
   have ca:P.Can WW a (vl WW a):=⟨da,c1.2,rfl⟩
   have cb:P.Can WW b (vl WW b):=⟨db,c2.2,rfl⟩
   have h1:=mc cb
   by_cases c3:vl WW b=0
   ·refine ⟨false,Ev.step (fun k=>dR k _ _) (Ev.bind e1 (Ev.bind (a:=false) (bF rfl (Ev.bind e2 (evs _))) (Ev.bind (a:=true) (bF rfl ?_) (bT rfl (evs _))))),?_⟩
    ·rw [hb0,decide_eq_true c3];exact evs _
    ·rw [hiff];simp [c3]
   ·refine (?_:∃ t,Ev (fun k=>bif (List.length a:Int)==(0:Int) then _ else _) t∧_).elim fun t h=>⟨t,Ev.step (fun k=>dR k _ _) (Ev.bind e1 (Ev.bind (a:=false) (bF rfl (Ev.bind e2 (evs _))) (Ev.bind (a:=false) (bF rfl ?_) (bF rfl h.1)))),h.2⟩
    ·by_cases c4:vl WW a=0
     ·have ha0:((List.length a:Int)==(0:Int))=true:=by rw [mq da c1.2];exact decide_eq_true c4
      cases s with
      | true =>
       refine ⟨false,bT ha0 (Ev.bind (a:=false) (bF rfl (evs _)) (Ev.bind (bF rfl (evs _)) (evs _))),?_⟩
       rw [hiff];simp [c4]
      | false =>
       refine ⟨decide (vl WW b=1),bT ha0 ?_,?_⟩
       ·by_cases c5:((List.length b:Int)==(1:Int))=true
        ·rw [c5] at h1
         refine Ev.bind (a:=true) (bT rfl (by rw [show (List.length (false,a,b,()).2.2.1:Int)=(List.length b:Int) from rfl,c5];exact evs _)) (Ev.bind (bT rfl ?_) (evs _))
         have h1':(if 0≤(0:Int)∧(0:Int)<(List.length b:Int) then some ((rdT (t:=(.int .u32)) b (0:Int):Int)==(1:Int)) else none)=some (decide (vl WW b=1)):=h1
         exact evk h1'
        ·have c6:=Bool.eq_false_iff.2 c5
         rw [c6] at h1
         have h1':some false=some (decide (vl WW b=1)):=h1
         rw [← Option.some.inj h1']
         exact Ev.bind (a:=false) (bT rfl (by rw [show (List.length (false,a,b,()).2.2.1:Int)=(List.length b:Int) from rfl,c6];exact evs _)) (Ev.bind (bF rfl (evs _)) (evs _))
       ·rw [hiff,decide_eq_true_eq]
        simp [c4,c1,c2,c3]
     ·have ha0:((List.length a:Int)==(0:Int))=false:=wF aW ca c4
      by_cases c5:vl WW b=1
      ·refine ⟨true,bF ha0 (Ev.bind (evk h1) (bT (decide_eq_true c5) (evs _))),?_⟩
       rw [hiff]
       have:gI (vl WW a) 1=1:=by unfold P.gI;simp
       simp [c4,c1,c2,c5,this]
      ·obtain ⟨g,g1,g2⟩:=q_GCD (by omega) (by omega) ca cb
       have h2:=mc g2
       refine ⟨decide (gI (vl WW a) (vl WW b)=1),bF ha0 (Ev.bind (evk h1) (bF (decide_eq_false c5) (Ev.bind g1 (Ev.bind (evk h2) (evs _))))),?_⟩
       rw [hiff,decide_eq_true_eq]
       simp [c4,c1,c2,c3]
    ·rw [hb0,decide_eq_false c3];exact evs _
  ·obtain rfl:=i1.2 c1
   have:t2=false:=Bool.eq_false_iff.2 (fun e=>c2 (i2.1 e))
   subst this
   refine ⟨false,Ev.step (fun k=>dR k _ _) (Ev.bind e1 (Ev.bind (a:=true) (bF rfl (Ev.bind e2 (evs _))) (Ev.bind (a:=true) (bT rfl (evs _)) (bT rfl (evs _))))),?_⟩
   rw [hiff]
   simp
   intro h1 h2 h3 h4
   exact absurd ⟨h2,h4⟩ c2
 ·have:t1=false:=Bool.eq_false_iff.2 (fun e=>c1 (i1.1 e))
  subst this
  refine ⟨false,Ev.step (fun k=>dR k _ _) (Ev.bind e1 (Ev.bind (a:=true) (bT rfl (evs _)) (Ev.bind (a:=true) (bT rfl (evs _)) (bT rfl (evs _))))),?_⟩
  rw [hiff]
  simp
  intro h1 h2 h3 h4
  exact absurd ⟨h1,h3⟩ c1
end
end Go.Proofs.YtfbgaddecbiimaaGreatDoor.Q
end
section
namespace Go.Proofs.YtfbgaddecbiimaaGreatDoor.Q
open Go.RowKit Go.Proofs.YtfbgaddecbiimaaGreatDoorW.PrintWords Go.Proofs.YtfbgaddecbiimaaGreatDoorW.PrintMore Go.Proofs.YtfbgaddecbiimaaGreatDoor.V Go.Proofs.YtfbgaddecbiimaaGreatDoor.E
open Go.Proofs.YtfbgaddecbiimaaGreatDoor.P (Dg Nm vl WW RR cV gI evs evk evb ij aW cR cP w64 u64)
set_option linter.unusedVariables false
section
variable {v w:gj} {p q:Rat} {K L:Nat}
theorem xi (x y:Int):(ij x y==(0:Int))=decide (x=y):=by
 unfold P.ij
 by_cases a:x<y
 ·rw [if_pos a,decide_eq_false (by omega)];rfl
 ·by_cases b:x=y
  ·rw [if_neg a,if_pos b,decide_eq_true b];rfl
  ·rw [if_neg a,if_neg b,decide_eq_false b];rfl
theorem sI (v:gj) (N:Nat):Ev (fun k=>cG k v (N:Int)) (decide (v.2.1.length≤N∧v.2.2.1.length≤N)):=by
 refine Ev.step (fun k=>iR k v _) (Ev.bind ?_ (evs _))
 by_cases c:v.2.1.length≤N
 ·refine bT (decide_eq_true (by omega)) ?_
  have:decide ((List.length v.2.2.1:Int)≤N)=decide (v.2.1.length≤N∧v.2.2.1.length≤N):=decide_eq_decide.2 (by omega)
  rw [this]
  exact evs _
 ·have:decide (v.2.1.length≤N∧v.2.2.1.length≤N)=false:=decide_eq_false (fun h=>c h.1)
  rw [this]
  exact bF (decide_eq_false (by omega)) (evs _)
theorem sL (ha:Arg v) (h:Vd v):Ev (fun k=>kY k v) true:=by
 obtain ⟨t,t1,t2⟩:=sK ha
 rw [t2.2 h] at t1
 exact t1
theorem arg_of (hv:RB WW v p) (hp:Sz WW K p) (h:K<4611686018427387904):Arg v:=by
 obtain ⟨l1,l2⟩:=mB cR hv hp
 exact ⟨hv.2.1.1,hv.2.2.1,trivial,trivial⟩
end
end Go.Proofs.YtfbgaddecbiimaaGreatDoor.Q
end
section
namespace Go.Proofs.YtfbgaddecbiimaaGreatDoor.P
open Go.RowKit Go.Proofs.YtfbgaddecbiimaaGreatDoorW.PrintWords Go.Proofs.YtfbgaddecbiimaaGreatDoorW.PrintLast Go.Proofs.YtfbgaddecbiimaaGreatDoorW.PrintMore
set_option linter.unusedVariables false
theorem bt_nums (l:List Int) (i:Nat) (h:i<l.length) (h0:0≤l[i]) (h1:l[i]<256):bt (strOfNums l) (i:Int)=l[i]:=by
 have hs:(strOfNums l).size=l.length:=strOfNums_size l
 unfold bt
 rw [dif_pos (by rw [Int.toNat_natCast,hs];exact h)]
 have e:(strOfNums l)[(i:Int).toNat]'(by rw [Int.toNat_natCast,hs];exact h)=UInt8.ofNat (l[i]).toNat:=by
  show (List.map (fun n=>UInt8.ofNat n.toNat) l).toArray[(i:Int).toNat]'_=_
  simp
 rw [e]
 have:(UInt8.ofNat (l[i]).toNat).toNat=(l[i]).toNat % 256:=by simp
 rw [this]
 omega
theorem asc_get (D:List Int) (i:Nat) (h:i<D.length):(asc D)[i]'(by rw [kF];exact h)=rd D ((D.length-1-i:Nat):Int)+48:=by
 rw [jk D _ (by omega)]
 simp [asc]
theorem Bx {D:List Int} (hD:Dg TT D) (i:Nat) (h:i<D.length):bt (strOfNums (asc D)) (i:Int)=rd D ((D.length-1-i:Nat):Int)+48∧Dig (strOfNums (asc D)) i:=by
 have hx:=dH hD ((D.length-1-i:Nat):Int) (by omega) (by omega)
 rw [BK] at hx
 have e:=asc_get D i h
 have b:=bt_nums (asc D) i (by rw [kF];exact h) (by rw [e];omega) (by rw [e];omega)
 rw [e] at b
 exact ⟨b,by unfold Dig;rw [b];omega⟩
theorem asc_sv {D:List Int} (hD:Dg TT D) (i:Nat) (h:i≤D.length):sv (strOfNums (asc D)) i=vl TT (D.drop (D.length-i)):=by
 induction i with
 | zero=>rw [Nat.sub_zero,List.drop_length];rfl
 | succ i ih =>
  have e:sv (strOfNums (asc D)) (i+1)=sv (strOfNums (asc D)) i*10+(bt (strOfNums (asc D)) (i:Int)-48):=rfl
  rw [e,ih (by omega),(Bx hD i (by omega)).1,dS D (D.length-(i+1)) (by omega),vl,show D.length-(i+1)+1=D.length-i by omega,show D.length-1-i=D.length-(i+1) by omega,BK]
  omega
theorem Bz {D:List Int} {n:Int} (hD:Can TT D n):(strOfNums (asc D)).size=D.length∧(∀ p,p<(strOfNums (asc D)).size→Dig (strOfNums (asc D)) p)∧sv (strOfNums (asc D)) (strOfNums (asc D)).size=n:=by
 have hs:(strOfNums (asc D)).size=D.length:=by rw [strOfNums_size,kF]
 refine ⟨hs,fun p hp=>(Bx hD.1 p (by omega)).2,?_⟩
 rw [hs,asc_sv hD.1 _ (Nat.le_refl _),Nat.sub_self,List.drop_zero,hD.2.2]
end Go.Proofs.YtfbgaddecbiimaaGreatDoor.P
end
section
namespace Go.Proofs.YtfbgaddecbiimaaGreatDoor.Q
open Go.RowKit Go.Proofs.YtfbgaddecbiimaaGreatDoorW.PrintWords Go.Proofs.YtfbgaddecbiimaaGreatDoorW.PrintMore Go.Proofs.YtfbgaddecbiimaaGreatDoor.V Go.Proofs.YtfbgaddecbiimaaGreatDoor.E
open Go.Proofs.YtfbgaddecbiimaaGreatDoor.P (Dg Nm vl WW RR TT asc cV gI evs evk evb ij aW cR cP w64 u64)
set_option linter.unusedVariables false
theorem oo (k:Nat) (y:gj):nI (k+1) y =
 (kY k y).bind fun (ok:Bool)=>bif ok then
  (bH k y.2.1).bind fun (n:ByteArray×Int×Unit) =>
  (oH k y).bind fun (wh:Bool)=>bif wh then
   if n.1.size+2≤140737488355328 then some (bif y.1 then (⟨#[45]⟩:ByteArray)++n.1 else n.1,0,()) else none
  else
   (bH k y.2.2.1).bind fun (d:ByteArray×Int×Unit) =>
   if n.1.size+d.1.size+2≤140737488355328 then some (bif y.1 then (⟨#[45]⟩:ByteArray)++n.1++((⟨#[47]⟩:ByteArray)++d.1) else n.1++((⟨#[47]⟩:ByteArray)++d.1),0,()) else none
 else some ((⟨#[]⟩:ByteArray),3,()):=by
 kernel_rfl
def Txt (n:Int) (s:ByteArray):Prop:=(n=0∧s=⟨#[48]⟩)∨(0<n∧∃ D,P.Can TT D n∧D≠[]∧D.length≤576∧s=strOfNums (asc D))
theorem Txt.size {n:Int} {s:ByteArray} (h:Txt n s):s.size≤576:=by
 rcases h with ⟨_,rfl⟩ | ⟨_,D,h1,h2,h3,rfl⟩
 ·decide
 ·rw [(P.Bz h1).1]
  exact h3
theorem q_Text {a:List Int} {n:Int} (hl:a.length≤40) (ha:P.Can WW a n):∃ s,Ev (fun k=>bH k a) (s,0,())∧Txt n s:=by
 have n0:=ha.fG aW
 by_cases c:n=0
 ·obtain rfl:=len_eq aW ha c
  refine ⟨⟨#[48]⟩,Ev.step (fun k=>oK k _) (evmap (g:=fun r:ByteArray×Int=>(r.1,r.2,())) (r:=((⟨#[48]⟩:ByteArray),0)) ?_),.inl ⟨c,rfl⟩⟩
  unfold P.bH.f
  obtain ⟨t,h1,h2,h3⟩:=P.vK [] (by simp)
  obtain rfl:=h3.2 ⟨by simp,P.Nm.nil⟩
  exact evb h2 (P.evp rfl (P.evp rfl (evs _)))
 ·obtain ⟨D,d1,d2,d3,d4⟩:=P.uU hl ha (by omega)
  exact ⟨_,Ev.step (fun k=>oK k _) (evmap (g:=fun r:ByteArray×Int=>(r.1,r.2,())) d1),.inr ⟨by omega,D,d2,d3,d4,rfl⟩⟩
section
variable {v w:gj} {p q:Rat} {K L:Nat}
theorem tc (hv:RB WW v p):Ev (fun k=>oH k v) (decide (p.den=1)):=by
 have h:=mc hv.2.2
 have e:decide ((p.den:Int)=1)=decide (p.den=1):=decide_eq_decide.2 (by omega)
 rw [e] at h
 exact Ev.step (fun k=>tf k v) (Ev.bind (Ev.step (fun k=>sZ k v) (Ev.bind (evk h) (evs _))) (evs _))
def RTxt (p:Rat) (s:ByteArray):Prop:=∃ n d,Txt (p.num.natAbs:Int) n∧(p.den≠1→Txt (p.den:Int) d)∧s=(bif decide (p.num<0) then (⟨#[45]⟩:ByteArray)++n else n)++(if p.den=1 then ⟨#[]⟩ else (⟨#[47]⟩:ByteArray)++d)
theorem il (s:ByteArray):s++(⟨#[]⟩:ByteArray)=s:=by
 apply ByteArray.ext
 simp [ByteArray.data_append]
theorem uD (hv:RB WW v p) (hp:Sz WW K p) (hK:K≤40):∃ s,Ev (fun k=>nI k v) (s,0,())∧RTxt p s:=by
 obtain ⟨l1,l2⟩:=mB cR hv hp
 have a1:=sL (arg_of hv hp (by omega)) ⟨p,hv,zq aW hp (by omega)⟩
 obtain ⟨n,n1,n2⟩:=q_Text (by omega) hv.2.1
 obtain ⟨d,d1,d2⟩:=q_Text (by omega) hv.2.2
 have w1:=tc hv
 have ns:=n2.size
 have ds:=d2.size
 by_cases c:p.den=1
 ·refine ⟨_,Ev.step (fun k=>oo k v) (Ev.bind a1 (bT rfl (Ev.bind n1 (Ev.bind w1 (bT (decide_eq_true c) (iT (by simp only [];omega) (evs _))))))),n,d,n2,fun h=>absurd c h,?_⟩
  rw [if_pos c,il,hv.1]
 ·refine ⟨_,Ev.step (fun k=>oo k v) (Ev.bind a1 (bT rfl (Ev.bind n1 (Ev.bind w1 (bF (decide_eq_false c) (Ev.bind d1 (iT (by simp only [];omega) (evs _)))))))),n,d,n2,fun _=>d2,?_⟩
  rw [if_neg c,hv.1]
  cases decide (p.num<0)<;>rfl
end
end Go.Proofs.YtfbgaddecbiimaaGreatDoor.Q
end
section
namespace Go.Proofs.YtfbgaddecbiimaaGreatDoor.Q
open Go.RowKit Go.Proofs.YtfbgaddecbiimaaGreatDoorW.PrintWords Go.Proofs.YtfbgaddecbiimaaGreatDoorW.PrintMore Go.Proofs.YtfbgaddecbiimaaGreatDoor.V Go.Proofs.YtfbgaddecbiimaaGreatDoor.E
open Go.Proofs.YtfbgaddecbiimaaGreatDoor.P (Dg WW dg_wf)
set_option linter.unusedVariables false
theorem tab_ok:cN T=true:=by kernel_rfl
theorem mixed:T.P.follows .mixedOrders=true:=by kernel_rfl
theorem noGo0:(Tryz.prog.funcs.toList.all fun f=>f.name != "runtime.NumGoroutine")=true:=by kernel_rfl
theorem noGo (f:Nat) (fn:Func) (h:T.P.funcs[f]?=some fn):fn.name≠"runtime.NumGoroutine":=by
 have h1:=List.all_eq_true.1 noGo0 fn (by
  rw [Array.mem_toList_iff]
  exact Array.mem_of_getElem? h)
 simpa using h1
theorem arg_rat {y:gj} (h:Fine aB y):Arg y:=by
 obtain ⟨_,h1,h2,_⟩:=h
 exact ⟨dg_wf h1.2,dg_wf h2.2,trivial,trivial⟩
end Go.Proofs.YtfbgaddecbiimaaGreatDoor.Q
end
section
namespace Go.Proofs.YtfbgaddecbiimaaGreatDoor.Q
open Go.RowKit Go.Proofs.YtfbgaddecbiimaaGreatDoorW.PrintWords Go.Proofs.YtfbgaddecbiimaaGreatDoorW.PrintMore Go.Proofs.YtfbgaddecbiimaaGreatDoor.V Go.Proofs.YtfbgaddecbiimaaGreatDoor.E
open Go.Proofs.YtfbgaddecbiimaaGreatDoor.P (Dg Nm vl WW RR TT asc cV gI evs evk evb ij aW cR cP w64 u64)
set_option linter.unusedVariables false
section
variable {v w:gj} {p q:Rat} {K L:Nat}
def down (n:Nat) (p:Rat):Rat:=((p*((2 ^ n:Int):Rat)).floor:Rat) / ((2 ^ n:Int):Rat)
end
end Go.Proofs.YtfbgaddecbiimaaGreatDoor.Q
end
section
namespace Go.Proofs.YtfbgaddecbiimaaGreatDoor.Q
open Go.RowKit Go.Proofs.YtfbgaddecbiimaaGreatDoorW.PrintWords Go.Proofs.YtfbgaddecbiimaaGreatDoorW.PrintMore Go.Proofs.YtfbgaddecbiimaaGreatDoor.V Go.Proofs.YtfbgaddecbiimaaGreatDoor.E
open Go.Proofs.YtfbgaddecbiimaaGreatDoor.P (Dg Nm vl WW RR cV gI evs evk evb ij aW cR cP w64 u64)
set_option linter.unusedVariables false
def Ev3 {α:Type} (g:Nat→Nat→Nat→Option α) (r:α):Prop:=∃ K,∀ k m n,K≤k→K≤m→K≤n→g k m n=some r
section
variable {α β:Type} {g f:Nat→Nat→Nat→Option α} {r:α}
theorem Ev3.diag (h:Ev3 g r):Ev2 (fun k n=>g k k n) r:=by
 obtain ⟨K,h⟩:=h
 exact ⟨K,fun k n hk hn=>h k k n hk hk hn⟩
theorem Ev3.step (h:∀ k m n,g k (m+1) n=f k m n) (k:Ev3 f r):Ev3 g r:=by
 obtain ⟨K,k⟩:=k
 refine ⟨K+1,fun n m q hn hm hq=>?_⟩
 obtain ⟨p,rfl⟩:∃ p,m=p+1:=⟨m-1,by omega⟩
 rw [h]
 exact k n p q (by omega) (by omega) (by omega)
theorem Ev3.bind {g:Nat→Option β} {f:Nat→Nat→Nat→β→Option α} {a:β} (h:Ev g a) (k:Ev3 (fun n m q=>f n m q a) r):Ev3 (fun n m q=>(g n).bind (f n m q)) r:=by
 obtain ⟨K,h⟩:=h
 obtain ⟨K',k⟩:=k
 refine ⟨max K K',fun n m q hn hm hq=>?_⟩
 have h1:=h n (by omega)
 simp only [h1,Option.bind_some]
 exact k n m q (by omega) (by omega) (by omega)
theorem Ev3.bT {c:Bool} (hc:c=true) (h:Ev3 f r):Ev3 (fun k m n=>bif c then f k m n else g k m n) r:=by subst hc;exact h
theorem Ev3.bF {c:Bool} (hc:c=false) (h:Ev3 g r):Ev3 (fun k m n=>bif c then f k m n else g k m n) r:=by subst hc;exact h
theorem Ev3.iT {c:Prop} [Decidable c] (hc:c) (h:Ev3 f r):Ev3 (fun k m n=>if c then f k m n else none) r:=by simpa only [if_pos hc] using h
theorem Ev3.of {g:Nat→Nat→Option α} (h:Ev2 g r):Ev3 (fun k _ n=>g k n) r:=by
 obtain ⟨K,h⟩:=h
 exact ⟨K,fun k m n hk _ hn=>h k n hk hn⟩
end
def VN (N:Nat) (v:gj):Prop:=∃ q,RB WW v q∧Sz WW N q
section
variable {v w:gj} {p q:Rat} {K L:Nat}
theorem r_valid (l:List Int):∃ b,P.bB.f l=some b∧(b=true↔l.length≤4096∧Nm l):=by
 unfold P.bB.f
 by_cases h1:l.length≤4096
 ·by_cases h0:l.length=0
  ·refine ⟨true,by rw [if_pos (by omega),if_pos (by omega)],?_⟩
   have:l=[]:=List.eq_nil_of_length_eq_zero h0
   subst this
   simp
   exact P.Nm.nil
  ·have e:wrap64 ((l.length:Int)-1)=(l.length:Int)-1:=w64 (by omega) (by omega)
   rw [e,if_pos (by omega),if_neg (by omega),if_pos (by omega),if_pos (by omega)]
   refine ⟨_,rfl,?_⟩
   simp only [bne_iff_ne]
   constructor
   ·intro h
    exact ⟨h1,P.jS (fun _=>h)⟩
   ·intro h
    exact h.2.rd (by omega)
 ·refine ⟨false,by rw [if_neg (by omega)],?_⟩
  simp
  omega
theorem zF (l:List Int) (hl:True):∃ t,Ev (fun k=>bB k l) t∧(t=true↔l.length≤4096∧Nm l):=by
 obtain ⟨t,h1,h3⟩:=r_valid l
 exact ⟨t,Ev.step (fun k=>iS k l) (evk h1),h3⟩
theorem sG (ha:Arg v):∃ t,Ev (fun k=>dN k v) t∧(t=true↔Vd v):=by
 have hiff:=vd_iff ha
 obtain ⟨da,db,la,lb⟩:=ha
 obtain ⟨s,a,b,_⟩:=v
 obtain ⟨t1,e1,i1⟩:=zF a la
 obtain ⟨t2,e2,i2⟩:=zF b lb
 by_cases c1:a.length≤4096∧Nm a
 ·by_cases c2:b.length≤4096∧Nm b
  ·obtain rfl:=i1.2 c1
   obtain rfl:=i2.2 c2
   have hb0:=mq db c2.2
   have ca:P.Can WW a (vl WW a):=⟨da,c1.2,rfl⟩
   have cb:P.Can WW b (vl WW b):=⟨db,c2.2,rfl⟩
   have h1:=mc cb
   by_cases c3:vl WW b=0
   ·refine ⟨false,Ev.step (fun k=>di k _) (Ev.bind e1 (Ev.bind (a:=false) (bF rfl (Ev.bind e2 (evs _))) (Ev.bind (a:=true) (bF rfl ?_) (bT rfl (evs _))))),?_⟩
    ·rw [hb0,decide_eq_true c3];exact evs _
    ·rw [hiff];simp [c3]
   ·refine (?_:∃ t,Ev (fun k=>bif (List.length a:Int)==(0:Int) then _ else _) t∧_).elim fun t h=>⟨t,Ev.step (fun k=>di k _) (Ev.bind e1 (Ev.bind (a:=false) (bF rfl (Ev.bind e2 (evs _))) (Ev.bind (a:=false) (bF rfl ?_) (bF rfl h.1)))),h.2⟩
    ·by_cases c4:vl WW a=0
     ·have ha0:((List.length a:Int)==(0:Int))=true:=by rw [mq da c1.2];exact decide_eq_true c4
      cases s with
      | true =>
       refine ⟨false,bT ha0 (Ev.bind (a:=false) (bF rfl (evs _)) (Ev.bind (bF rfl (evs _)) (evs _))),?_⟩
       rw [hiff];simp [c4]
      | false =>
       refine ⟨decide (vl WW b=1),bT ha0 ?_,?_⟩
       ·by_cases c5:((List.length b:Int)==(1:Int))=true
        ·rw [c5] at h1
         refine Ev.bind (a:=true) (bT rfl (by rw [show (List.length (false,a,b,()).2.2.1:Int)=(List.length b:Int) from rfl,c5];exact evs _)) (Ev.bind (bT rfl ?_) (evs _))
         have h1':(if 0≤(0:Int)∧(0:Int)<(List.length b:Int) then some ((rdT (t:=(.int .u32)) b (0:Int):Int)==(1:Int)) else none)=some (decide (vl WW b=1)):=h1
         exact evk h1'
        ·have c6:=Bool.eq_false_iff.2 c5
         rw [c6] at h1
         have h1':some false=some (decide (vl WW b=1)):=h1
         rw [← Option.some.inj h1']
         exact Ev.bind (a:=false) (bT rfl (by rw [show (List.length (false,a,b,()).2.2.1:Int)=(List.length b:Int) from rfl,c6];exact evs _)) (Ev.bind (bF rfl (evs _)) (evs _))
       ·rw [hiff,decide_eq_true_eq]
        simp [c4,c1,c2,c3]
     ·have ha0:((List.length a:Int)==(0:Int))=false:=wF aW ca c4
      obtain ⟨x,x1,x2,x3⟩:=s_Of (by omega) ca
      obtain ⟨y,y1,y2,y3⟩:=s_Of (by omega) cb
      obtain ⟨g,g1,g2⟩:=s_GCD (by omega) (by omega) x2 y2
      have b0:0<vl WW b:=by
       have h0:(0:Int)≤vl WW b:=P.bX aW db
       omega
      have gl:g.length<4611686018427387904:=by
       have:=g2.gP kp (Int.lt_of_le_of_lt (P.gI_le b0) (y2.lt cP))
       omega
      have h2:=s_Cmp gl g2 (can1 kp)
      refine ⟨decide (gI (vl WW a) (vl WW b)=1),bF ha0 (Ev.bind x1 (Ev.bind y1 (Ev.bind g1 (Ev.bind h2 ?_)))),?_⟩
      ·rw [xi];exact evs _
      ·rw [hiff,decide_eq_true_eq]
       simp [c4,c1,c2,c3]
    ·rw [hb0,decide_eq_false c3];exact evs _
  ·obtain rfl:=i1.2 c1
   have:t2=false:=Bool.eq_false_iff.2 (fun e=>c2 (i2.1 e))
   subst this
   refine ⟨false,Ev.step (fun k=>di k _) (Ev.bind e1 (Ev.bind (a:=true) (bF rfl (Ev.bind e2 (evs _))) (Ev.bind (a:=true) (bT rfl (evs _)) (bT rfl (evs _))))),?_⟩
   rw [hiff]
   simp
   intro h1 h2 h3 h4
   exact absurd ⟨h2,h4⟩ c2
 ·have:t1=false:=Bool.eq_false_iff.2 (fun e=>c1 (i1.1 e))
  subst this
  refine ⟨false,Ev.step (fun k=>di k _) (Ev.bind e1 (Ev.bind (a:=true) (bT rfl (evs _)) (Ev.bind (a:=true) (bT rfl (evs _)) (bT rfl (evs _))))),?_⟩
  rw [hiff]
  simp
  intro h1 h2 h3 h4
  exact absurd ⟨h1,h3⟩ c1
theorem vn_iff (N:Nat) (ha:Arg v):VN N v↔v.2.1.length≤N∧v.2.2.1.length≤N∧Nm v.2.1∧Nm v.2.2.1∧vl WW v.2.2.1≠0∧(vl WW v.2.1=0→v.1=false∧vl WW v.2.2.1=1)∧(vl WW v.2.1≠0→gI (vl WW v.2.1) (vl WW v.2.2.1)=1):=by
 obtain ⟨s,a,b,_⟩:=v
 have h:=zh (s:=s) ha.1 ha.2.1
 constructor
 ·rintro ⟨q,h1,h2⟩
  obtain ⟨l1,l2⟩:=mB cR h1 h2
  exact ⟨l1,l2,h.1 ⟨q,h1⟩⟩
 ·rintro ⟨l1,l2,h3⟩
  obtain ⟨q,hq⟩:=h.2 h3
  exact ⟨q,hq,zp aW hq l1 l2⟩
theorem oG (N:Nat) (hN:N≤4096) (l:List Int):∃ t,Ev (fun k=>fX k l (N:Int)) t∧(t=true↔l.length≤N∧Nm l):=by
 by_cases h1:l.length≤N
 ·by_cases h0:l.length=0
  ·have:l=[]:=List.eq_nil_of_length_eq_zero h0
   subst this
   exact ⟨true,Ev.step (fun k=>eY k _ _) (Ev.bind (bT rfl (Ev.bind (bT rfl (evs _)) (evs _))) (evs _)),by simp;exact P.Nm.nil⟩
  ·have e:wrap64 ((l.length:Int)-1)=(l.length:Int)-1:=w64 (by omega) (by omega)
   refine ⟨rd l ((l.length:Int)-1) != 0,Ev.step (fun k=>eY k _ _) (Ev.bind (bT (decide_eq_true (by omega)) (Ev.bind (bF (by simp;intro e;exact h0 (by simp [e])) ?_) (evs _))) (evs _)),?_⟩
   ·rw [e]
    exact iT (by omega) (evs _)
   ·simp only [bne_iff_ne]
    exact ⟨fun h=>⟨h1,P.jS (fun _=>h)⟩,fun h=>h.2.rd (by omega)⟩
 ·exact ⟨false,Ev.step (fun k=>eY k _ _) (Ev.bind (bF (decide_eq_false (by omega)) (evs _)) (evs _)),by simp;omega⟩
theorem uS (N:Nat) (hN:N≤4096) (ha:Arg v):∃ t,Ev (fun k=>de k v (N:Int)) t∧(t=true↔VN N v):=by
 have hiff:=vn_iff N ha
 obtain ⟨da,db,la,lb⟩:=ha
 obtain ⟨s,a,b,_⟩:=v
 obtain ⟨t1,e1,i1⟩:=oG N hN a
 obtain ⟨t2,e2,i2⟩:=oG N hN b
 show ∃ t,Ev (fun k=>de k (s,a,b,()) (N:Int)) t∧(t=true↔VN N (s,a,b,()))
 by_cases c1:a.length≤N∧Nm a
 ·by_cases c2:b.length≤N∧Nm b
  ·obtain rfl:=i1.2 c1
   obtain rfl:=i2.2 c2
   have hb0:=mq db c2.2
   have ca:P.Can WW a (vl WW a):=⟨da,c1.2,rfl⟩
   have cb:P.Can WW b (vl WW b):=⟨db,c2.2,rfl⟩
   have h1:=mc cb
   by_cases c3:vl WW b=0
   ·refine ⟨false,Ev.step (fun k=>dR k _ _) (Ev.bind e1 (Ev.bind (a:=false) (bF rfl (Ev.bind e2 (evs _))) (Ev.bind (a:=true) (bF rfl ?_) (bT rfl (evs _))))),?_⟩
    ·rw [hb0,decide_eq_true c3];exact evs _
    ·rw [hiff];simp [c3]
   ·refine (?_:∃ t,Ev (fun k=>bif (List.length a:Int)==(0:Int) then _ else _) t∧_).elim fun t h=>⟨t,Ev.step (fun k=>dR k _ _) (Ev.bind e1 (Ev.bind (a:=false) (bF rfl (Ev.bind e2 (evs _))) (Ev.bind (a:=false) (bF rfl ?_) (bF rfl h.1)))),h.2⟩
    ·by_cases c4:vl WW a=0
     ·have ha0:((List.length a:Int)==(0:Int))=true:=by rw [mq da c1.2];exact decide_eq_true c4
      cases s with
      | true =>
       refine ⟨false,bT ha0 (Ev.bind (a:=false) (bF rfl (evs _)) (Ev.bind (bF rfl (evs _)) (evs _))),?_⟩
       rw [hiff];simp [c4]
      | false =>
       refine ⟨decide (vl WW b=1),bT ha0 ?_,?_⟩
       ·by_cases c5:((List.length b:Int)==(1:Int))=true
        ·rw [c5] at h1
         refine Ev.bind (a:=true) (bT rfl (by rw [show (List.length (false,a,b,()).2.2.1:Int)=(List.length b:Int) from rfl,c5];exact evs _)) (Ev.bind (bT rfl ?_) (evs _))
         have h1':(if 0≤(0:Int)∧(0:Int)<(List.length b:Int) then some ((rdT (t:=(.int .u32)) b (0:Int):Int)==(1:Int)) else none)=some (decide (vl WW b=1)):=h1
         exact evk h1'
        ·have c6:=Bool.eq_false_iff.2 c5
         rw [c6] at h1
         have h1':some false=some (decide (vl WW b=1)):=h1
         rw [← Option.some.inj h1']
         exact Ev.bind (a:=false) (bT rfl (by rw [show (List.length (false,a,b,()).2.2.1:Int)=(List.length b:Int) from rfl,c6];exact evs _)) (Ev.bind (bF rfl (evs _)) (evs _))
       ·rw [hiff,decide_eq_true_eq]
        simp [c4,c1,c2,c3]
     ·have ha0:((List.length a:Int)==(0:Int))=false:=wF aW ca c4
      by_cases c5:vl WW b=1
      ·refine ⟨true,bF ha0 (Ev.bind (evk h1) (bT (decide_eq_true c5) (evs _))),?_⟩
       rw [hiff]
       have:gI (vl WW a) 1=1:=by unfold P.gI;simp
       simp [c4,c1,c2,c5,this]
      ·obtain ⟨g,g1,g2⟩:=q_GCD (by omega) (by omega) ca cb
       have h2:=mc g2
       refine ⟨decide (gI (vl WW a) (vl WW b)=1),bF ha0 (Ev.bind (evk h1) (bF (decide_eq_false c5) (Ev.bind g1 (Ev.bind (evk h2) (evs _))))),?_⟩
       rw [hiff,decide_eq_true_eq]
       simp [c4,c1,c2,c3]
    ·rw [hb0,decide_eq_false c3];exact evs _
  ·obtain rfl:=i1.2 c1
   have:t2=false:=Bool.eq_false_iff.2 (fun e=>c2 (i2.1 e))
   subst this
   refine ⟨false,Ev.step (fun k=>dR k _ _) (Ev.bind e1 (Ev.bind (a:=true) (bF rfl (Ev.bind e2 (evs _))) (Ev.bind (a:=true) (bT rfl (evs _)) (bT rfl (evs _))))),?_⟩
   rw [hiff]
   simp
   intro h1 h2 h3 h4
   exact absurd ⟨h2,h4⟩ c2
 ·have:t1=false:=Bool.eq_false_iff.2 (fun e=>c1 (i1.1 e))
  subst this
  refine ⟨false,Ev.step (fun k=>dR k _ _) (Ev.bind e1 (Ev.bind (a:=true) (bT rfl (evs _)) (Ev.bind (a:=true) (bT rfl (evs _)) (bT rfl (evs _))))),?_⟩
  rw [hiff]
  simp
  intro h1 h2 h3 h4
  exact absurd ⟨h1,h3⟩ c1
end
end Go.Proofs.YtfbgaddecbiimaaGreatDoor.Q
end
section
namespace Go.Proofs.YtfbgaddecbiimaaGreatDoor.Q
open Go.RowKit Go.Proofs.YtfbgaddecbiimaaGreatDoorW.PrintWords Go.Proofs.YtfbgaddecbiimaaGreatDoorW.PrintMore Go.Proofs.YtfbgaddecbiimaaGreatDoor.V Go.Proofs.YtfbgaddecbiimaaGreatDoor.E
open Go.Proofs.YtfbgaddecbiimaaGreatDoor.P (Dg Nm vl WW RR cV gI evs evk evb ij aW cR cP w64 u64)
set_option linter.unusedVariables false
noncomputable def dc (p:Prop):Bool:=@decide p (Classical.propDecidable p)
theorem iZ {p:Prop} (h:p):dc p=true:=@decide_eq_true p (Classical.propDecidable p) h
theorem dO {p:Prop} (h:¬ p):dc p=false:=@decide_eq_false p (Classical.propDecidable p) h
theorem dc_of {p:Prop} {t:Bool} (h:t=true↔p):t=dc p:=by
 cases t with
 | true=>exact (iZ (h.1 rfl)).symm
 | false=>exact (dO (fun hp=>by have:=h.2 hp;cases this)).symm
theorem mL {t:Ty} {l:List t.den} {i:Nat} (h:i<l.length):rdT l (i:Int)=l[i]:=by
 simp [rdT,h]
theorem wK {i:Nat} (h:i<9223372036854775807):wrap64 ((i:Int)+1)=((i+1:Nat):Int):=by
 rw [w64 (by omega) (by omega)];omega
section
variable {v w:gj} {p q:Rat} {K L:Nat}
theorem th (N:Nat) (hN:N≤4096) (ha:Arg v):Ev (fun k=>de k v (N:Int)) (dc (VN N v)):=by
 obtain ⟨t,h1,h2⟩:=uS N hN ha
 rw [← dc_of h2]
 exact h1
theorem vH {N:Nat} (hN:N≤4096) (ha:Arg v):VN N v↔(v.2.1.length≤N∧v.2.2.1.length≤N)∧Vd v:=by
 constructor
 ·rintro ⟨q,h1,h2⟩
  exact ⟨mB cR h1 h2,q,h1,zq aW h2 hN⟩
 ·rintro ⟨⟨h1,h2⟩,q,h3,h4⟩
  exact ⟨q,h3,zp aW h3 h1 h2⟩
theorem sH (ha:Arg v):Ev (fun k=>dN k v) (dc (Vd v)):=by
 obtain ⟨t,h1,h2⟩:=sG ha
 rw [← dc_of h2]
 exact h1
end
end Go.Proofs.YtfbgaddecbiimaaGreatDoor.Q
end
section
namespace Go.Proofs.YtfbgaddecbiimaaGreatDoor.E
open Go.RowKit Go.Proofs.YtfbgaddecbiimaaGreatDoorW.PrintWords Go.Proofs.YtfbgaddecbiimaaGreatDoorW.PrintMore Go.Proofs.YtfbgaddecbiimaaGreatDoor.V
theorem le_up {α:Type} {f:Nat→Option α} (h:∀ k,LeO (f k) (f (k+1))):∀ (k k':Nat),k≤k'→LeO (f k) (f k')
 | k,0,hk=>by
  have:k=0:=by omega
  subst this
  exact LeO.refl _
 | k,k'+1,hk=>by
  by_cases c:k=k'+1
  ·rw [c];exact LeO.refl _
  ·exact (le_up h k k' (by omega)).trans (h k')
theorem vd {α β:Type} {a b:Option α} {f:α→β} (h:LeO a b):LeO (a.map f) (b.map f):=by
 intro r hr
 obtain ⟨x,h1,rfl⟩:=Option.map_eq_some_iff.1 hr
 rw [h x h1]
 rfl
theorem fV {c0 ct:Ty} {f:Nat→c0.den→Option ct.den} (hf:∀ (x0:c0.den) (k:Nat),LeO (f k x0) (f (k+1) x0)) (call call':(g:Nat)→List Val→Option (T.out g).den) (k k':Nat) (vs:List Val) (hk:k≤k'):Lq ((yq (T:=T) c0 ct f).g call k vs) ((yq (T:=T) c0 ct f).g call' k' vs):=by
 simp only [yq]
 split
 ·split
  ·exact le_up (fun k=>hf _ k) k k' hk
  ·exact iO
 ·exact iO
theorem cY {c0 c1 ct:Ty} {f:Nat→c0.den→c1.den→Option ct.den} (hf:∀ (x0:c0.den) (x1:c1.den) (k:Nat),LeO (f k x0 x1) (f (k+1) x0 x1)) (call call':(g:Nat)→List Val→Option (T.out g).den) (k k':Nat) (vs:List Val) (hk:k≤k'):Lq ((pJ (T:=T) c0 c1 ct f).g call k vs) ((pJ (T:=T) c0 c1 ct f).g call' k' vs):=by
 simp only [pJ]
 split
 ·split
  ·exact le_up (fun k=>hf _ _ k) k k' hk
  ·exact iO
 ·exact iO
theorem Ah {c0 c1 c2 ct:Ty} {f:Nat→c0.den→c1.den→c2.den→Option ct.den} (hf:∀ (x0:c0.den) (x1:c1.den) (x2:c2.den) (k:Nat),LeO (f k x0 x1 x2) (f (k+1) x0 x1 x2)) (call call':(g:Nat)→List Val→Option (T.out g).den) (k k':Nat) (vs:List Val) (hk:k≤k'):Lq ((orc3 (T:=T) c0 c1 c2 ct f).g call k vs) ((orc3 (T:=T) c0 c1 c2 ct f).g call' k' vs):=by
 simp only [orc3]
 split
 ·split
  ·exact le_up (fun k=>hf _ _ _ k) k k' hk
  ·exact iO
 ·exact iO
theorem Af:rM orcA:=by
 intro x hx call call' k k' vs _ hk
 simp only [orcA,List.mem_cons,List.not_mem_nil,or_false] at hx
 rcases hx with rfl | rfl | rfl | rfl | rfl | rfl | rfl | rfl | rfl | rfl | rfl | rfl | rfl | rfl | rfl | rfl | rfl | rfl | rfl | rfl | rfl | rfl | rfl | rfl
 ·exact cY (fun a0 a1 k=>(P.aJ.mono a0 a1 k)) call call' k k' vs hk
 ·exact cY (fun a0 a1 k=>(P.an.mono a0 a1 k)) call call' k k' vs hk
 ·exact cY (fun a0 a1 k=>(vd (P.ay.mono a0 a1 k))) call call' k k' vs hk
 ·exact cY (fun a0 a1 k=>(P.ak.mono a0 a1 k)) call call' k k' vs hk
 ·exact fV (fun a0 k=>(P.az.mono a0 k)) call call' k k' vs hk
 ·exact cY (fun a0 a1 k=>(P.aA.mono a0 a1 k)) call call' k k' vs hk
 ·exact cY (fun a0 a1 k=>(P.aT.mono a0 a1 k)) call call' k k' vs hk
 ·exact Ah (fun a0 a1 a2 k=>(P.ah.mono a0 a1 a2 k)) call call' k k' vs hk
 ·exact cY (fun a0 a1 k=>(P.aG.mono a0 a1 k)) call call' k k' vs hk
 ·exact fV (fun a0 k=>(P.aw.mono a0 k)) call call' k k' vs hk
 ·exact fV (fun a0 k=>(LeO.refl _)) call call' k k' vs hk
 ·exact fV (fun a0 k=>(P.aI.mono a0 k)) call call' k k' vs hk
 ·exact cY (fun a0 a1 k=>(P.cE.mono a0 a1 k)) call call' k k' vs hk
 ·exact fV (fun a0 k=>(LeO.refl _)) call call' k k' vs hk
 ·exact cY (fun a0 a1 k=>(P.bQ.mono a0 a1 k)) call call' k k' vs hk
 ·exact cY (fun a0 a1 k=>(vd (P.aC.mono a0 a1 k))) call call' k k' vs hk
 ·exact fV (fun a0 k=>(P.bw.mono a0 k)) call call' k k' vs hk
 ·exact cY (fun a0 a1 k=>(P.bE.mono a0 a1 k)) call call' k k' vs hk
 ·exact cY (fun a0 a1 k=>(P.bh.mono a0 a1 k)) call call' k k' vs hk
 ·exact cY (fun a0 a1 k=>(P.cd.mono a0 a1 k)) call call' k k' vs hk
 ·exact cY (fun a0 a1 k=>(P.cf.mono a0 a1 k)) call call' k k' vs hk
 ·exact fV (fun a0 k=>(vd (P.bH.mono a0 k))) call call' k k' vs hk
 ·exact fV (fun a0 k=>(LeO.refl _)) call call' k k' vs hk
 ·exact cY (fun a0 a1 k=>(P.aL.mono a0 a1 k)) call call' k k' vs hk
end Go.Proofs.YtfbgaddecbiimaaGreatDoor.E
end
section
namespace Go.Proofs.YtfbgaddecbiimaaGreatDoor.E
open Go.RowKit Go.Proofs.YtfbgaddecbiimaaGreatDoorW.PrintWords Go.Proofs.YtfbgaddecbiimaaGreatDoorW.PrintMore Go.Proofs.YtfbgaddecbiimaaGreatDoor.V
set_option linter.unusedVariables false
theorem Aw {β:Type} {b:Bool} {x x' y y':Option β} (hx:Lq x x') (hy:Lq y y'):Lq (bif b then x else y) (bif b then x' else y'):=by
 cases b
 ·exact hy
 ·exact hx
theorem xX {call call':(g:Nat)→List Val→Option (T.out g).den} (h:∀ g vs,Lq (call g vs) (call' g vs)) (y:gj):Lq (lU call y) (lU call' y):=by
 unfold lU
 refine gh (h _ _) (fun ok=>Aw (gh (h _ _) (fun n=>gh (h _ _) (fun wh=>Aw (Lq.refl _) (gh (h _ _) (fun d=>Lq.refl _))))) (Lq.refl _))
theorem varO_lq {a a':Option aB.den} {s s':aB.den→Option Int} {c c':aB.den→Option aB.den} (ha:Lq a a') (hs:∀ x,Lq (s x) (s' x)) (hc:∀ x,Lq (c x) (c' x)) (n i:Int):Lq (varO a s c n i) (varO a' s' c' n i):=by
 unfold varO
 split
 ·exact Lq.refl _
 ·exact gh ha (fun x=>gh (hs x) (fun t=>Aw (Lq.refl _) (gh (hc x) (fun y=>Lq.refl _))))
theorem wu:rM orc:=by
 intro x hx call call' k k' vs hc hk
 simp only [orc,List.mem_cons] at hx
 rcases hx with rfl | rfl | rfl | hx
 ·simp only [iL]
  split
  ·split
   ·exact xX hc _
   ·exact Lq.refl _
  ·exact Lq.refl _
 ·simp only [gb]
  exact cY (fun _ _ _=>LeO.refl _) call call' k k' vs hk
 ·simp only [iM]
  split
  ·split
   ·exact varO_lq (hc _ _) (fun x=>hc _ _) (fun x=>hc _ _) _ _
   ·exact Lq.refl _
  ·exact Lq.refl _
 ·exact Af x hx call call' k k' vs hc hk
end Go.Proofs.YtfbgaddecbiimaaGreatDoor.E
namespace Go.Proofs.YtfbgaddecbiimaaGreatDoor.Q
open Go.RowKit Go.Proofs.YtfbgaddecbiimaaGreatDoor.V Go.Proofs.YtfbgaddecbiimaaGreatDoor.E
theorem awake_at:eE 60=some true:=by
 kernel_rfl
end Go.Proofs.YtfbgaddecbiimaaGreatDoor.Q
end
section
namespace Go.Proofs.YtfbgaddecbiimaaGreatDoor.Q
open Go.RowKit Go.Proofs.YtfbgaddecbiimaaGreatDoorW.PrintWords Go.Proofs.YtfbgaddecbiimaaGreatDoorW.PrintMore Go.Proofs.YtfbgaddecbiimaaGreatDoor.V Go.Proofs.YtfbgaddecbiimaaGreatDoor.E
open Go.Proofs.YtfbgaddecbiimaaGreatDoor.P (Dg Nm vl WW RR cV gI evs evk evb ij aW cR cP w64 u64)
set_option linter.unusedVariables false
theorem dnw {n:Nat} {P:Nat→Prop} (hn:P n) (hs:∀ i,i<n→P (i+1)→P i):∀ i,i≤n→P i:=by
 have key:∀ d i,n-i=d→i≤n→P i:=by
  intro d
  induction d with
  | zero =>
   intro i hd hi;have:i=n:=by omega
   subst this;exact hn
  | succ d ih=>intro i hd hi;exact hs i (by omega) (ih (i+1) (by omega) (by omega))
 exact fun i hi=>key (n-i) i rfl hi
theorem jZ {α:Type} {l:List α} {i:Nat} (h:i<l.length):l.drop i=l[i] :: l.drop (i+1):=List.drop_eq_getElem_cons h
theorem yg (x y:List Int) (h:x.length≤y.length) (hy:y.length≤9223372036854775807):Ev (fun k=>dU k x y) (dW x y):=by
 have main:=dnw (n:=x.length) (P:=fun i=>Ev2 (fun k m=>dU.l0 k m y x (x.length:Int) (i:Int)) (dW (x.drop i) (y.drop i))) ?_ ?_ 0 (Nat.zero_le _)
 ·exact Ev.step (fun k=>yh k x y) main.diag
 ·rw [List.drop_length]
  exact Ev2.step (fun k m=>dU.cF k m _ _ _ _) (Ev2.bF (decide_eq_false (by omega)) (Ev2.of (evs _)))
 ·intro i hi ih
  have hiy:i<y.length:=by omega
  have e1:(rdT (t:=(.int .i64)) x (i:Int):Int)=x[i]:=mL hi
  have e2:(rdT (t:=(.int .i64)) y (i:Int):Int)=y[i]:=mL hiy
  rw [jZ hi,jZ hiy]
  refine Ev2.step (fun k m=>dU.cF k m _ _ _ _) (Ev2.bT (decide_eq_true (by omega)) (Ev2.iT (by omega) (Ev2.iT (by omega) ?_)))
  rw [e1,e2]
  by_cases c:x[i]=y[i]
  ·have ce:dW (x[i] :: x.drop (i+1)) (y[i] :: y.drop (i+1))=dW (x.drop (i+1)) (y.drop (i+1)):=by simp only [dW,if_pos c]
   rw [ce]
   refine Ev2.bF (by simp [c]) ?_
   rw [wK (by omega)]
   exact ih
  ·refine Ev2.bT (by simp [c]) (Ev2.iT (by omega) ?_)
   by_cases d:x[i]<y[i]
   ·have ce:dW (x[i] :: x.drop (i+1)) (y[i] :: y.drop (i+1)) = -1:=by simp only [dW,if_neg c,if_pos d]
    rw [ce]
    exact Ev2.bT (decide_eq_true d) (Ev2.of (evs _))
   ·have ce:dW (x[i] :: x.drop (i+1)) (y[i] :: y.drop (i+1))=1:=by simp only [dW,if_neg c,if_neg d]
    rw [ce]
    exact Ev2.bF (decide_eq_false d) (Ev2.of (evs _))
def sE:List Int→Int
 | []=>0
 | x :: l=>x+sE l
theorem oe:∀ a b,sE (a++b)=sE a+sE b
 | [],b=>by simp [sE]
 | x :: a,b=>by rw [List.cons_append,sE,sE,oe a b];omega
theorem mF {l:List Int} {i:Nat} (h:i<l.length):sE (l.take (i+1))=sE (l.take i)+l[i]:=by
 rw [List.take_succ_eq_append_getElem h,oe];simp [sE]
theorem qK {B:Int} (hB:0≤B):∀ {l:List Int},(∀ x∈l,0≤x∧x≤B)→0≤sE l∧sE l≤B*l.length
 | [],_=>by simp [sE]
 | x :: l,h=>by
  have h1:=qK hB (l:=l) (fun y hy=>h y (by simp [hy]))
  have h2:=h x (by simp)
  have e:B*((x :: l).length:Int)=B*l.length+B:=by simp only [List.length_cons];grind
  simp only [sE]
  omega
abbrev lN (x:List Int):List Int:=gn (0:Int) 8 x
theorem dM {α:Type} (z:α):∀ (n:Nat) (l:List α),(gn z n l).length=n
 | 0,l=>rfl
 | n+1,[]=>by simp [gn,dM z n]
 | n+1,a :: l=>by simp [gn,dM z n]
theorem dJ {α:Type} (z:α):∀ (n:Nat) (l:List α),l.length≤n→gn z n l=l++List.replicate (n-l.length) z
 | 0,[],_=>rfl
 | 0,_ :: _,h=>by simp at h
 | n+1,[],_=>by
  have:=dJ z n [] (Nat.zero_le _)
  simp only [gn,this,List.nil_append,List.length_nil,Nat.sub_zero]
  rfl
 | n+1,a :: l,h=>by
  have:=dJ z n l (by simpa using h)
  simp only [gn,this,List.cons_append,List.length_cons,Nat.add_sub_add_right]
theorem zI:∀ n,sE (List.replicate n (0:Int))=0
 | 0=>rfl
 | n+1=>by rw [List.replicate_succ,sE,zI n];rfl
theorem sE_pad {x:List Int} (h:x.length≤8):sE (lN x)=sE x:=by
 rw [lN,dJ _ _ _ h,oe,zI];omega
theorem tT (n m:Nat):∀ x y:List Int,x.length=y.length→dW (x++List.replicate n 0) (y++List.replicate n 0)=dW x y
 | [],[],_=>by
  show dW (List.replicate n 0) (List.replicate n 0)=0
  exact pb _
 | [],_ :: _,h=>by simp at h
 | _ :: _,[],h=>by simp at h
 | a :: x,b :: y,h=>by
  simp only [List.cons_append,dW,tT n m x y (by simpa using h)]
theorem cmpE_pad {x y:List Int} (hx:x.length≤8) (h:x.length=y.length):dW (lN x) (lN y)=dW x y:=by
 rw [lN,lN,dJ _ _ _ hx,dJ _ _ _ (by omega),← h]
 exact tT _ 0 x y h
theorem uC {e:List Int} (he:e.length=8) {i:Nat} (hi:i<8):rdA (0:Int) 8 e (i:Int)=e[i]:=by
 simp only [rdA,Int.toNat_natCast,Nat.mod_eq_of_lt hi]
 rw [List.getD_eq_getElem?_getD,List.getElem?_eq_getElem (by omega)]
 rfl
theorem wb (u:Int):∀ (l:List Int) (i:Nat),i<l.length→setA (0:Int) u l i=l.set i u
 | [],i,h=>by simp at h
 | _ :: l,0,_=>rfl
 | a :: l,i+1,h=>by
  show a :: setA (0:Int) u l i=a :: l.set i u
  rw [wb u l i (by simpa using h)]
theorem stA_set {e:List Int} (he:e.length=8) {i:Nat} (hi:i<8) (u:Int):stA (0:Int) 8 e (i:Int) u=e.set i u:=by
 simp only [stA,Int.toNat_natCast,Nat.mod_eq_of_lt hi]
 exact wb u e i (by omega)
theorem mI (e:List Int) (he:e.length=8) (hb:∀ x∈e,0≤x∧x≤1000000):Ev (fun k=>bP k e) (sE e):=by
 have hs:∀ i,0≤sE (e.take i)∧sE (e.take i)≤1000000*8:=fun i=>by
  have:=qK (B:=1000000) (by omega) (l:=e.take i) (fun x hx=>hb x (List.mem_of_mem_take hx))
  have h2:((e.take i).length:Int)≤8:=by rw [List.length_take];omega
  omega
 have main:=dnw (n:=8) (P:=fun i=>Ev2 (fun k m=>bP.l0 k m (sE (e.take i)) e (i:Int)) (sE e)) ?_ ?_ 0 (by omega)
 ·exact Ev.step (fun k=>iQ k e) main.diag
 ·have:e.take 8=e:=List.take_of_length_le (by omega)
  rw [this]
  exact Ev2.step (fun k m=>bP.cF k m _ _ _) (Ev2.bF (decide_eq_false (by omega)) (Ev2.of (evs _)))
 ·intro i hi ih
  refine Ev2.step (fun k m=>bP.cF k m _ _ _) (Ev2.bT (decide_eq_true (by omega)) (Ev2.iT (by omega) ?_))
  rw [uC he hi,← mF (by omega),wK (by omega)]
  have:=hs (i+1)
  rw [w64 (by omega) (by omega)]
  exact ih
theorem qN (a b:List Int) (ha:a.length=8) (hb:b.length=8):Ev (fun k=>bL k a b) (decide (dW a b>0)):=by
 have main:=dnw (n:=8) (P:=fun i=>Ev2 (fun k m=>bL.l0 k m (i:Int) a b) (decide (dW (a.drop i) (b.drop i)>0))) ?_ ?_ 0 (by omega)
 ·exact Ev.step (fun k=>iD k a b) main.diag
 ·rw [List.drop_of_length_le (by omega)]
  exact Ev2.step (fun k m=>bL.cF k m _ _ _) (Ev2.bF (decide_eq_false (by omega)) (Ev2.of (evs _)))
 ·intro i hi ih
  have hia:i<a.length:=by omega
  have hib:i<b.length:=by omega
  rw [jZ hia,jZ hib]
  refine Ev2.step (fun k m=>bL.cF k m _ _ _) (Ev2.bT (decide_eq_true (by omega)) (Ev2.iT (by omega) (Ev2.iT (by omega) ?_)))
  rw [uC ha hi,uC hb hi]
  by_cases c:a[i]=b[i]
  ·have ce:dW (a[i] :: a.drop (i+1)) (b[i] :: b.drop (i+1))=dW (a.drop (i+1)) (b.drop (i+1)):=by simp only [dW,if_pos c]
   rw [ce]
   refine Ev2.bF (by simp [c]) ?_
   rw [wK (by omega)]
   exact ih
  ·refine Ev2.bT (by simp [c]) (Ev2.iT (by omega) (Ev2.iT (by omega) ?_))
   have ce:decide (dW (a[i] :: a.drop (i+1)) (b[i] :: b.drop (i+1))>0)=decide (a[i]>b[i]):=by
    simp only [dW,if_neg c]
    by_cases d:a[i]<b[i]
    ·rw [if_pos d,decide_eq_false (by omega),decide_eq_false (by omega)]
    ·rw [if_neg d,decide_eq_true (by omega),decide_eq_true (by omega)]
   rw [ce]
   exact Ev2.of (evs _)
end Go.Proofs.YtfbgaddecbiimaaGreatDoor.Q
end
section
namespace Go.Proofs.YtfbgaddecbiimaaGreatDoor.Q
open Go.RowKit Go.Proofs.YtfbgaddecbiimaaGreatDoorW.PrintWords Go.Proofs.YtfbgaddecbiimaaGreatDoorW.PrintMore Go.Proofs.YtfbgaddecbiimaaGreatDoor.V Go.Proofs.YtfbgaddecbiimaaGreatDoor.E
open Go.Proofs.YtfbgaddecbiimaaGreatDoor.P (Dg Nm vl WW RR cV gI evs evk evb ij aW cR cP w64 u64)
set_option linter.unusedVariables false
theorem AZ {c:Prop} [Decidable c] (h:¬ c):Ev (fun _=>some (decide c)) false:=by rw [decide_eq_false h];exact evs _
theorem evdT {c:Prop} [Decidable c] (h:c):Ev (fun _=>some (decide c)) true:=by rw [decide_eq_true h];exact evs _
def ArgM (t:cx):Prop:=t.1.length≤9223372036854775807∧Arg t.2.1
def xr (p:dK):Prop:=p.2.1.length≤9223372036854775807∧∀ t∈p.2.1,ArgM t
structure TermOk (N:Int) (t:cx):Prop where
 len:(t.1.length:Int)=N
 ex:∀ x∈t.1,0≤x∧x≤40
 sum:sE t.1≤40
 co:VN 200 t.2.1
 ne:t.2.1.2.1.length≠0
abbrev tmA (p:dK) (i:Nat):cx:=rdT (t:=aF) p.2.1 (i:Int)
def pt (p:dK) (i:Nat):Prop:=TermOk p.1 (tmA p i)∧(0<i→dW (tmA p (i-1)).1 (tmA p i).1>0)
structure lK (p:dK):Prop where
 n0:0≤p.1
 n8:p.1≤8
 few:p.2.1.length≤4000
 good:∀ i,i<p.2.1.length→pt p i
theorem ui {p:dK} (ha:xr p) {i:Nat} (hi:i<p.2.1.length):ArgM (tmA p i):=by
 have:tmA p i=p.2.1[i]:=mL hi
 rw [this]
 exact ha.2 _ (List.getElem_mem _)
theorem uT (v:gj) (N:Nat):Ev (fun k=>jR k v (N:Int)) (decide (v.2.1.length≤N∧v.2.2.1.length≤N)):=by
 by_cases c:v.2.1.length≤N
 ·by_cases d:v.2.2.1.length≤N
  ·rw [decide_eq_true ⟨c,d⟩]
   exact Ev.step (fun k=>kv k v _) (Ev.bind (a:=true) (bT (decide_eq_true (by omega)) (by rw [show decide ((v.2.2.1.length:Int)≤(N:Int))=true from decide_eq_true (by omega)];exact evs _)) (evs _))
  ·rw [decide_eq_false (fun h=>d h.2)]
   exact Ev.step (fun k=>kv k v _) (Ev.bind (a:=false) (bT (decide_eq_true (by omega)) (by rw [show decide ((v.2.2.1.length:Int)≤(N:Int))=false from decide_eq_false (by omega)];exact evs _)) (evs _))
 ·rw [decide_eq_false (fun h=>c h.1)]
  exact Ev.step (fun k=>kv k v _) (Ev.bind (a:=false) (bF (decide_eq_false (by omega)) (evs _)) (evs _))
theorem tk (v:gj):∃ s,Ev (fun k=>ly k v) s∧((s==(0:Int))=decide (v.2.1.length=0)):=by
 by_cases c:v.2.1.length=0
 ·refine ⟨0,Ev.step (fun k=>ku k v) (bT (by simp [c]) (evs _)),by rw [decide_eq_true c];rfl⟩
 ·have hc:((List.length v.2.1:Int)==(0:Int))=false:=by simp;intro h;exact c (by rw [h];rfl)
  cases hs:v.1 with
  | true=>exact ⟨-1,Ev.step (fun k=>ku k v) (bF hc (bT hs (evs _))),by rw [decide_eq_false c];rfl⟩
  | false=>exact ⟨1,Ev.step (fun k=>ku k v) (bF hc (bF hs (evs _))),by rw [decide_eq_false c];rfl⟩
theorem vn_len {N:Nat} {v:gj} (h:VN N v):v.2.1.length≤N∧v.2.2.1.length≤N:=by
 obtain ⟨q,h1,h2⟩:=h
 exact mB cR h1 h2
section
variable {p:dK} {i:Nat}
theorem xz (ha:xr p) (hi:i<p.2.1.length) (hl:(tmA p i).1.length≤9223372036854775807) (hp:0<i→(tmA p (i-1)).1.length≤(tmA p i).1.length) {r:Bool} (hr:(sE (tmA p i).1≤40∧(0<i→dW (tmA p (i-1)).1 (tmA p i).1>0)∧VN 200 (tmA p i).2.1)→Ev2 (fun k m=>bD.l0 k m p.2.1 (p.2.1.length:Int) ((i+1:Nat):Int) p) r) (hf:¬ (sE (tmA p i).1≤40∧(0<i→dW (tmA p (i-1)).1 (tmA p i).1>0)∧VN 200 (tmA p i).2.1)→r=false) :
 Ev2 (fun k m0=>(bif decide (sE (tmA p i).1>(40:Int)) then some true else (bif decide ((i:Int)>(0:Int)) then if 0≤(wrap64 ((i:Int)-(1:Int)))∧(wrap64 ((i:Int)-(1:Int)))<(List.length p.2.1:Int) then (dU k ((rdT (t:=aF) p.2.1 (wrap64 ((i:Int)-(1:Int))):cx).1) (tmA p i).1).bind fun (v8:Int) =>
  some (decide (v8≤(0:Int))) else none else some false).bind fun (b9:Bool) =>
  some b9).bind fun (b10:Bool) =>
  (bif b10 then some true else (de k (tmA p i).2.1 (200:Int)).bind fun (v11:Bool) =>
  some (!v11)).bind fun (b12:Bool) =>
  bif b12 then
   some false
  else
   bD.l0 k m0 p.2.1 (p.2.1.length:Int) (wrap64 ((i:Int)+(1:Int))) p) r:=by
 have hlen:=ha.1
 have hv:Ev (fun k=>de k (tmA p i).2.1 (200:Int)) (dc (VN 200 (tmA p i).2.1)):=th 200 (by omega) (ui ha hi).2
 by_cases c1:sE (tmA p i).1>40
 ·rw [hf (fun h=>by omega)]
  exact Ev2.bind (a:=true) (bT (decide_eq_true c1) (evs _)) (Ev2.bind (a:=true) (bT rfl (evs _)) (Ev2.bT rfl (Ev2.of (evs _))))
 ·have h2:Ev (fun k=>(bif decide ((i:Int)>(0:Int)) then if 0≤(wrap64 ((i:Int)-(1:Int)))∧(wrap64 ((i:Int)-(1:Int)))<(List.length p.2.1:Int) then (dU k ((rdT (t:=aF) p.2.1 (wrap64 ((i:Int)-(1:Int))):cx).1) (tmA p i).1).bind fun (v8:Int)=>some (decide (v8≤(0:Int))) else none else some false)) (dc (¬ (0<i→dW (tmA p (i-1)).1 (tmA p i).1>0))):=by
   by_cases c0:0<i
   ·have e1:wrap64 ((i:Int)-1)=((i-1:Nat):Int):=by rw [w64 (by omega) (by omega)];omega
    rw [e1]
    refine bT (decide_eq_true (by omega)) (iT (by omega) (Ev.bind (yg _ _ (hp c0) hl) ?_))
    have:decide (dW (tmA p (i-1)).1 (tmA p i).1≤0)=dc (¬ (0<i→dW (tmA p (i-1)).1 (tmA p i).1>0)):=dc_of (by
     rw [decide_eq_true_eq]
     constructor
     ·intro h h'
      have:=h' c0
      omega
     ·intro h
      apply Classical.byContradiction
      intro h'
      exact h (fun _=>by omega))
    rw [← this]
    exact evs _
   ·rw [dO (fun h=>h (fun h'=>absurd h' c0))]
    exact bF (decide_eq_false (by omega)) (evs _)
  by_cases c2:(0<i→dW (tmA p (i-1)).1 (tmA p i).1>0)
  ·rw [dO (fun h=>h c2)] at h2
   refine Ev2.bind (a:=false) (bF (decide_eq_false c1) (Ev.bind h2 (evs _))) ?_
   by_cases c3:VN 200 (tmA p i).2.1
   ·rw [iZ c3] at hv
    refine Ev2.bind (a:=false) (bF rfl (Ev.bind hv (evs _))) (Ev2.bF rfl ?_)
    rw [wK (by omega)]
    exact hr ⟨by omega,c2,c3⟩
   ·rw [dO c3] at hv
    rw [hf (fun h=>c3 h.2.2)]
    exact Ev2.bind (a:=true) (bF rfl (Ev.bind hv (evs _))) (Ev2.bT rfl (Ev2.of (evs _)))
  ·rw [iZ c2] at h2
   rw [hf (fun h=>c2 h.2.1)]
   exact Ev2.bind (a:=true) (bF (decide_eq_false c1) (Ev.bind h2 (evs _))) (Ev2.bind (a:=true) (bT rfl (evs _)) (Ev2.bT rfl (Ev2.of (evs _))))
theorem ug (ha:xr p) (h8:p.1≤8) (hi:i<p.2.1.length) (hp:0<i→((tmA p (i-1)).1.length:Int)=p.1) {r:Bool} (hr:pt p i→Ev2 (fun k m=>bD.l0 k m p.2.1 (p.2.1.length:Int) ((i+1:Nat):Int) p) r) (hf:¬ pt p i→r=false) :
 Ev2 (fun k m=>bD.l0 k m p.2.1 (p.2.1.length:Int) (i:Int) p) r:=by
 have hlen:=ha.1
 have harg:=ui ha hi
 refine Ev2.step (fun k m=>bD.cF k m _ _ _ _) (Ev2.bT (decide_eq_true (by omega)) (Ev2.iT (by omega) ?_))
 by_cases c1:((tmA p i).1.length:Int)=p.1
 ·have b1:((List.length (tmA p i).1:Int) != p.1)=false:=by simp [c1]
  have hfit:Ev (fun k=>jR k (tmA p i).2.1 (200:Int)) _:=uT (tmA p i).2.1 200
  by_cases c2:(tmA p i).2.1.2.1.length≤200∧(tmA p i).2.1.2.2.1.length≤200
  ·rw [decide_eq_true c2] at hfit
   obtain ⟨s,hs1,hs2⟩:=tk (tmA p i).2.1
   by_cases c3:(tmA p i).2.1.2.1.length=0
   ·rw [decide_eq_true c3] at hs2
    rw [hf (fun h=>h.1.ne c3)]
    exact Ev2.bind (a:=false) (bF b1 (Ev.bind hfit (evs _))) (Ev2.bind (a:=true) (bF rfl (Ev.bind hs1 (by rw [hs2];exact evs _))) (Ev2.bT rfl (Ev2.of (evs _))))
   ·rw [decide_eq_false c3] at hs2
    refine Ev2.bind (a:=false) (bF b1 (Ev.bind hfit (evs _))) (Ev2.bind (a:=false) (bF rfl (Ev.bind hs1 (by rw [hs2];exact evs _))) (Ev2.bF rfl ?_))
    have hx8:(tmA p i).1.length≤8:=by omega
    have tl:=xz (r:=r) ha hi harg.1 (fun h0=>by have:=hp h0;omega)
    have bnd:∀ j,(∀ j' (h:j'<(tmA p i).1.length),j'<j→0≤(tmA p i).1[j']∧(tmA p i).1[j']≤40)→0≤sE ((tmA p i).1.take j)∧sE ((tmA p i).1.take j)≤320:=fun j hg=>by
     have h1:=qK (B:=40) (by omega) (l:=(tmA p i).1.take j) (fun x hx=>by
      obtain ⟨j',h1,rfl⟩:=List.getElem_of_mem hx
      rw [List.length_take] at h1
      rw [List.getElem_take]
      exact hg j' (by omega) (by omega))
     have h2:(((tmA p i).1.take j).length:Int)≤8:=by rw [List.length_take];omega
     omega
    have key:=dnw (n:=(tmA p i).1.length) (P:=fun j=>(∀ j' (h:j'<(tmA p i).1.length),j'<j→0≤(tmA p i).1[j']∧(tmA p i).1[j']≤40)→Ev3 (fun k m1 m0=>bD.l1 k m1 m0 (i:Int) (sE ((tmA p i).1.take j)) p.2.1 (p.2.1.length:Int) (i:Int) (tmA p i).1 ((tmA p i).1.length:Int) (j:Int) p (tmA p i)) r) ?_ ?_ 0 (Nat.zero_le _) (fun j' _ h=>by omega)
    ·exact key.diag
    ·intro hg
     have hall:∀ x∈(tmA p i).1,0≤x∧x≤40:=fun x hx=>by
      obtain ⟨j',h1,rfl⟩:=List.getElem_of_mem hx
      exact hg j' h1 h1
     rw [List.take_length]
     refine Ev3.step (fun k m1 m0=>bD.gQ k m1 m0 _ _ _ _ _ _ _ _ _ _) (Ev3.bF (decide_eq_false (by omega)) (Ev3.of ?_))
     refine tl (fun h=>hr ⟨⟨c1,hall,h.1,h.2.2,c3⟩,h.2.1⟩) (fun h=>hf (fun g=>h ⟨g.1.sum,g.2,g.1.co⟩))
    ·intro j hj ih hg
     have e1:(rdT (t:=(.int .i64)) (tmA p i).1 (j:Int):Int)=(tmA p i).1[j]:=mL hj
     refine Ev3.step (fun k m1 m0=>bD.gQ k m1 m0 _ _ _ _ _ _ _ _ _ _) (Ev3.bT (decide_eq_true (by omega)) (Ev3.iT (by omega) ?_))
     rw [e1]
     by_cases g1:0≤(tmA p i).1[j]∧(tmA p i).1[j]≤40
     ·have b2:=bnd (j+1) (fun j' h1 h2=>by
       by_cases c:j'=j
       ·subst c;exact g1
       ·exact hg j' h1 (by omega))
      have b3:=mF hj
      refine Ev3.bind (a:=false) (bF (decide_eq_false (show ¬ (tmA p i).1[j]<0 by omega)) (AZ (show ¬ (tmA p i).1[j]>40 by omega))) (Ev3.bF rfl ?_)
      rw [← b3,w64 (by omega) (by omega),wK (by omega)]
      exact ih (fun j' h1 h2=>by
       by_cases c:j'=j
       ·subst c;exact g1
       ·exact hg j' h1 (by omega))
     ·rw [hf (fun h=>g1 (h.1.ex _ (List.getElem_mem hj)))]
      refine Ev3.bind (a:=true) ?_ (Ev3.bT rfl (Ev3.of (Ev2.of (evs _))))
      by_cases g2:(tmA p i).1[j]<0
      ·exact bT (decide_eq_true g2) (evs _)
      ·exact bF (decide_eq_false g2) (evdT (show (tmA p i).1[j]>40 by omega))
  ·rw [decide_eq_false c2] at hfit
   rw [hf (fun h=>c2 (vn_len h.1.co))]
   exact Ev2.bind (a:=true) (bF b1 (Ev.bind hfit (evs _))) (Ev2.bind (a:=true) (bT rfl (evs _)) (Ev2.bT rfl (Ev2.of (evs _))))
 ·have b1:((List.length (tmA p i).1:Int) != p.1)=true:=by simp [c1]
  rw [hf (fun h=>c1 h.1.len)]
  exact Ev2.bind (a:=true) (bT b1 (evs _)) (Ev2.bind (a:=true) (bT rfl (evs _)) (Ev2.bT rfl (Ev2.of (evs _))))
theorem qT (ha:xr p):Ev (fun k=>bD k p) (dc (lK p)):=by
 have hlen:=ha.1
 by_cases c0:p.1<0
 ·rw [dO (fun h=>by have:=h.n0;omega)]
  exact Ev.step (fun k=>gv k p) (Ev.bind (a:=true) (bT (decide_eq_true c0) (evs _)) (Ev.bind (a:=true) (bT rfl (evs _)) (bT rfl (evs _))))
 by_cases c8:p.1>8
 ·rw [dO (fun h=>by have:=h.n8;omega)]
  exact Ev.step (fun k=>gv k p) (Ev.bind (a:=true) (bF (decide_eq_false c0) (evdT c8)) (Ev.bind (a:=true) (bT rfl (evs _)) (bT rfl (evs _))))
 by_cases c4:p.2.1.length>4000
 ·rw [dO (fun h=>by have:=h.few;omega)]
  exact Ev.step (fun k=>gv k p) (Ev.bind (a:=false) (bF (decide_eq_false c0) (AZ c8)) (Ev.bind (a:=true) (bF rfl (evdT (by omega))) (bT rfl (evs _))))
 refine Ev.step (fun k=>gv k p) (Ev.bind (a:=false) (bF (decide_eq_false c0) (AZ c8)) (Ev.bind (a:=false) (bF rfl (AZ (by omega))) (bF rfl (Ev2.diag (g:=fun k m=>bD.l0 k m p.2.1 (p.2.1.length:Int) (0:Int) p) ?_))))
 have main:=dnw (n:=p.2.1.length) (P:=fun i=>(∀ j,j<i→pt p j)→Ev2 (fun k m=>bD.l0 k m p.2.1 (p.2.1.length:Int) (i:Int) p) (dc (lK p))) ?_ ?_ 0 (Nat.zero_le _) (fun j h=>by omega)
 ·exact main
 ·intro hg
  rw [iZ ⟨by omega,by omega,by omega,hg⟩]
  exact Ev2.step (fun k m=>bD.cF k m _ _ _ _) (Ev2.bF (decide_eq_false (by omega)) (Ev2.of (evs _)))
 ·intro i hi ih hg
  refine ug ha (by omega) hi (fun h0=>(hg (i-1) (by omega)).1.len) (fun h=>ih (fun j hj=>?_)) (fun h=>dO (fun hv=>h (hv.good i hi)))
  by_cases c:j=i
  ·rw [c];exact h
  ·exact hg j (by omega)
end
end Go.Proofs.YtfbgaddecbiimaaGreatDoor.Q
end
section
namespace Go.Proofs.YtfbgaddecbiimaaGreatDoor.Q
open Go.RowKit Go.Proofs.YtfbgaddecbiimaaGreatDoorW.PrintWords Go.Proofs.YtfbgaddecbiimaaGreatDoorW.PrintMore Go.Proofs.YtfbgaddecbiimaaGreatDoor.V Go.Proofs.YtfbgaddecbiimaaGreatDoor.E
open Go.Proofs.YtfbgaddecbiimaaGreatDoor.P (Dg Nm vl WW RR cV gI evs evk evb ij aW cR cP w64 u64)
set_option linter.unusedVariables false
theorem pad_take {x:List Int} (h:x.length≤8) {j:Nat} (hj:j<x.length):(lN (x.take j)).set j x[j]=lN (x.take (j+1)):=by
 have e1:(x.take j).length=j:=by rw [List.length_take];omega
 have e2:(x.take (j+1)).length=j+1:=by rw [List.length_take];omega
 rw [lN,lN,dJ _ _ _ (by omega),dJ _ _ _ (by omega),e1,e2,List.take_succ_eq_append_getElem hj]
 obtain ⟨d,hd⟩:∃ d,8-j=d+1:=⟨8-j-1,by omega⟩
 rw [hd,show 8-(j+1)=d by omega,List.replicate_succ,List.set_append_right _ _ (by omega),e1,Nat.sub_self,List.append_assoc]
 rfl
noncomputable def AF (p:dK) (i:Nat):List Int:=match i with
 | 0=>List.replicate 8 (0:Int)
 | i+1=>lN (tmA p i).1
theorem mK (v:gj) (N:Nat):Ev (fun k=>cG k v (N:Int)) (decide (v.2.1.length≤N∧v.2.2.1.length≤N)):=sI v N
section
variable {p:dK} {i:Nat}
theorem zP (ha:xr p) (h8:p.1≤8) (hi:i<p.2.1.length) (hp:0<i→((tmA p (i-1)).1.length:Int)=p.1) {r:Bool} (hr:pt p i→Ev2 (fun k m=>aR.l0 k m p.2.1 (p.2.1.length:Int) ((i+1:Nat):Int) p (AF p (i+1))) r) (hf:¬ pt p i→r=false) :
 Ev2 (fun k m=>aR.l0 k m p.2.1 (p.2.1.length:Int) (i:Int) p (AF p i)) r:=by
 have hlen:=ha.1
 have harg:=ui ha hi
 refine Ev2.step (fun k m=>aR.cF k m _ _ _ _ _) (Ev2.bT (decide_eq_true (by omega)) (Ev2.iT (by omega) ?_))
 by_cases c1:((tmA p i).1.length:Int)=p.1
 ·have b1:((List.length (tmA p i).1:Int) != p.1)=false:=by simp [c1]
  have hsh:Ev (fun k=>cG k (tmA p i).2.1 (200:Int)) _:=mK (tmA p i).2.1 200
  by_cases c2:(tmA p i).2.1.2.1.length≤200∧(tmA p i).2.1.2.2.1.length≤200
  ·rw [decide_eq_true c2] at hsh
   have hv:=sH harg.2
   by_cases c3:Vd (tmA p i).2.1
   ·rw [iZ c3] at hv
    have hvn:VN 200 (tmA p i).2.1:=(vH (by omega) harg.2).2 ⟨c2,c3⟩
    by_cases c4:(tmA p i).2.1.2.1.length=0
    ·rw [hf (fun h=>h.1.ne c4)]
     exact Ev2.bind (a:=false) (bF b1 (Ev.bind hsh (evs _))) (Ev2.bind (a:=false) (bF rfl (Ev.bind hv (evs _))) (Ev2.bind (a:=true) (bF rfl (by rw [show ((List.length (tmA p i).2.1.2.1:Int)==(0:Int))=true by simp [c4]];exact evs _)) (Ev2.bT rfl (Ev2.of (evs _)))))
    ·have c4':((List.length (tmA p i).2.1.2.1:Int)==(0:Int))=false:=by simp;intro h;exact c4 (by rw [h];rfl)
     refine Ev2.bind (a:=false) (bF b1 (Ev.bind hsh (evs _))) (Ev2.bind (a:=false) (bF rfl (Ev.bind hv (evs _))) (Ev2.bind (a:=false) (bF rfl (by rw [c4'];exact evs _)) (Ev2.bF rfl ?_)))
     have hx8:(tmA p i).1.length≤8:=by omega
     have key:=dnw (n:=(tmA p i).1.length) (P:=fun j=>(∀ j' (h:j'<(tmA p i).1.length),j'<j→0≤(tmA p i).1[j']∧(tmA p i).1[j']≤40)→Ev3 (fun k m1 m0=>aR.l1 k m1 m0 (i:Int) p.2.1 (p.2.1.length:Int) (i:Int) (tmA p i).1 ((tmA p i).1.length:Int) (j:Int) p (AF p i) (lN ((tmA p i).1.take j))) r) ?_ ?_ 0 (Nat.zero_le _) (fun j' _ h=>by omega)
     ·exact key.diag
     ·intro hg
      have hall:∀ x∈(tmA p i).1,0≤x∧x≤40:=fun x hx=>by
       obtain ⟨j',h1,rfl⟩:=List.getElem_of_mem hx
       exact hg j' h1 h1
      rw [List.take_length]
      have hb8:∀ x∈lN (tmA p i).1,0≤x∧x≤1000000:=fun x hx=>by
       rw [lN,dJ _ _ _ hx8,List.mem_append,List.mem_replicate] at hx
       rcases hx with hx | hx
       ·have:=hall x hx;omega
       ·omega
      have ht:=mI (lN (tmA p i).1) (dM _ _ _) hb8
      rw [sE_pad hx8] at ht
      refine Ev3.step (fun k m1 m0=>aR.gQ k m1 m0 _ _ _ _ _ _ _ _ _ _) (Ev3.bF (decide_eq_false (by omega)) (Ev3.bind ht (Ev3.of ?_)))
      by_cases d1:sE (tmA p i).1>40
      ·rw [hf (fun h=>by have:=h.1.sum;omega)]
       exact Ev2.bind (a:=true) (bT (decide_eq_true d1) (evs _)) (Ev2.bT rfl (Ev2.of (evs _)))
      ·have h2:Ev (fun k=>(bif decide ((i:Int)>(0:Int)) then (bL k (AF p i) (lN (tmA p i).1)).bind fun (v10:Bool)=>some (!v10) else some false)) (dc (¬ (0<i→dW (tmA p (i-1)).1 (tmA p i).1>0))):=by
        cases i with
        | zero =>
         rw [dO (fun h=>h (fun h'=>absurd h' (by omega)))]
         exact bF (decide_eq_false (by omega)) (evs _)
        | succ i0 =>
         have hpl:=hp (by omega)
         rw [Nat.add_sub_cancel] at hpl ⊢
         have hbf:=qN (lN (tmA p i0).1) (lN (tmA p (i0+1)).1) (dM _ _ _) (dM _ _ _)
         rw [cmpE_pad (by omega) (by omega)] at hbf
         have:(!decide (dW (tmA p i0).1 (tmA p (i0+1)).1>0))=dc (¬ (0<i0+1→dW (tmA p i0).1 (tmA p (i0+1)).1>0)):=dc_of (by
          rw [Bool.not_eq_true',decide_eq_false_iff_not]
          exact ⟨fun h h'=>h (h' (by omega)),fun h h'=>h (fun _=>h')⟩)
         rw [← this]
         exact bT (decide_eq_true (by omega)) (Ev.bind hbf (evs _))
       by_cases d2:(0<i→dW (tmA p (i-1)).1 (tmA p i).1>0)
       ·rw [dO (fun h=>h d2)] at h2
        refine Ev2.bind (a:=false) (bF (decide_eq_false d1) (Ev.bind h2 (evs _))) (Ev2.bF rfl ?_)
        rw [wK (by omega)]
        exact hr ⟨⟨c1,hall,by omega,hvn,c4⟩,d2⟩
       ·rw [iZ d2] at h2
        rw [hf (fun h=>d2 h.2)]
        exact Ev2.bind (a:=true) (bF (decide_eq_false d1) (Ev.bind h2 (evs _))) (Ev2.bT rfl (Ev2.of (evs _)))
     ·intro j hj ih hg
      have e1:(rdT (t:=(.int .i64)) (tmA p i).1 (j:Int):Int)=(tmA p i).1[j]:=mL hj
      refine Ev3.step (fun k m1 m0=>aR.gQ k m1 m0 _ _ _ _ _ _ _ _ _ _) (Ev3.bT (decide_eq_true (by omega)) (Ev3.iT (by omega) ?_))
      rw [e1]
      by_cases g1:0≤(tmA p i).1[j]∧(tmA p i).1[j]≤40
      ·refine Ev3.bind (a:=false) (bF (decide_eq_false (show ¬ (tmA p i).1[j]<0 by omega)) (AZ (show ¬ (tmA p i).1[j]>40 by omega))) (Ev3.bF rfl (Ev3.iT (by omega) ?_))
       rw [stA_set (dM _ _ _) (by omega),pad_take hx8 hj,wK (by omega)]
       exact ih (fun j' h1 h2=>by
        by_cases c:j'=j
        ·subst c;exact g1
        ·exact hg j' h1 (by omega))
      ·rw [hf (fun h=>g1 (h.1.ex _ (List.getElem_mem hj)))]
       refine Ev3.bind (a:=true) ?_ (Ev3.bT rfl (Ev3.of (Ev2.of (evs _))))
       by_cases g2:(tmA p i).1[j]<0
       ·exact bT (decide_eq_true g2) (evs _)
       ·exact bF (decide_eq_false g2) (evdT (show (tmA p i).1[j]>40 by omega))
   ·rw [dO c3] at hv
    rw [hf (fun h=>c3 ((vH (by omega) harg.2).1 h.1.co).2)]
    exact Ev2.bind (a:=false) (bF b1 (Ev.bind hsh (evs _))) (Ev2.bind (a:=true) (bF rfl (Ev.bind hv (evs _))) (Ev2.bind (a:=true) (bT rfl (evs _)) (Ev2.bT rfl (Ev2.of (evs _)))))
  ·rw [decide_eq_false c2] at hsh
   rw [hf (fun h=>c2 (vn_len h.1.co))]
   exact Ev2.bind (a:=true) (bF b1 (Ev.bind hsh (evs _))) (Ev2.bind (a:=true) (bT rfl (evs _)) (Ev2.bind (a:=true) (bT rfl (evs _)) (Ev2.bT rfl (Ev2.of (evs _)))))
 ·have b1:((List.length (tmA p i).1:Int) != p.1)=true:=by simp [c1]
  rw [hf (fun h=>c1 h.1.len)]
  exact Ev2.bind (a:=true) (bT b1 (evs _)) (Ev2.bind (a:=true) (bT rfl (evs _)) (Ev2.bind (a:=true) (bT rfl (evs _)) (Ev2.bT rfl (Ev2.of (evs _)))))
theorem kS (ha:xr p):Ev (fun k=>aR k p) (dc (lK p)):=by
 have hlen:=ha.1
 by_cases c0:p.1<0
 ·rw [dO (fun h=>by have:=h.n0;omega)]
  exact Ev.step (fun k=>dg k p) (Ev.bind (a:=true) (bT (decide_eq_true c0) (evs _)) (Ev.bind (a:=true) (bT rfl (evs _)) (bT rfl (evs _))))
 by_cases c8:p.1>8
 ·rw [dO (fun h=>by have:=h.n8;omega)]
  exact Ev.step (fun k=>dg k p) (Ev.bind (a:=true) (bF (decide_eq_false c0) (evdT c8)) (Ev.bind (a:=true) (bT rfl (evs _)) (bT rfl (evs _))))
 by_cases c4:p.2.1.length>4000
 ·rw [dO (fun h=>by have:=h.few;omega)]
  exact Ev.step (fun k=>dg k p) (Ev.bind (a:=false) (bF (decide_eq_false c0) (AZ c8)) (Ev.bind (a:=true) (bF rfl (evdT (by omega))) (bT rfl (evs _))))
 refine Ev.step (fun k=>dg k p) (Ev.bind (a:=false) (bF (decide_eq_false c0) (AZ c8)) (Ev.bind (a:=false) (bF rfl (AZ (by omega))) (bF rfl (Ev2.diag (g:=fun k m=>aR.l0 k m p.2.1 (p.2.1.length:Int) (0:Int) p (List.replicate 8 (0:Int))) ?_))))
 have main:=dnw (n:=p.2.1.length) (P:=fun i=>(∀ j,j<i→pt p j)→Ev2 (fun k m=>aR.l0 k m p.2.1 (p.2.1.length:Int) (i:Int) p (AF p i)) (dc (lK p))) ?_ ?_ 0 (Nat.zero_le _) (fun j h=>by omega)
 ·exact main
 ·intro hg
  rw [iZ ⟨by omega,by omega,by omega,hg⟩]
  exact Ev2.step (fun k m=>aR.cF k m _ _ _ _ _) (Ev2.bF (decide_eq_false (by omega)) (Ev2.of (evs _)))
 ·intro i hi ih hg
  refine zP ha (by omega) hi (fun h0=>(hg (i-1) (by omega)).1.len) (fun h=>ih (fun j hj=>?_)) (fun h=>dO (fun hv=>h (hv.good i hi)))
  by_cases c:j=i
  ·rw [c];exact h
  ·exact hg j (by omega)
end
end Go.Proofs.YtfbgaddecbiimaaGreatDoor.Q
end
section
namespace Go.Proofs.YtfbgaddecbiimaaGreatDoor.Q
open Go.RowKit Go.Proofs.YtfbgaddecbiimaaGreatDoorW.PrintWords Go.Proofs.YtfbgaddecbiimaaGreatDoorW.PrintMore Go.Proofs.YtfbgaddecbiimaaGreatDoor.V Go.Proofs.YtfbgaddecbiimaaGreatDoor.E
open Go.Proofs.YtfbgaddecbiimaaGreatDoor.P (Dg Nm vl WW RR cV gI evs evk evb ij aW cR cP w64 u64)
set_option linter.unusedVariables false
theorem Bw:Ev (fun k=>eE k) true:=⟨60,fun k hk=>wU wu awake_at k hk⟩
abbrev three:gj:=(false,[3],[1],())
end Go.Proofs.YtfbgaddecbiimaaGreatDoor.Q
end
section
namespace Go.Proofs.YtfbgaddecbiimaaGreatDoor.Q
open Go.RowKit Go.Proofs.YtfbgaddecbiimaaGreatDoorW.PrintWords Go.Proofs.YtfbgaddecbiimaaGreatDoorW.PrintMore Go.Proofs.YtfbgaddecbiimaaGreatDoor.V Go.Proofs.YtfbgaddecbiimaaGreatDoor.E
set_option linter.unusedVariables false
theorem arg_poly {y:dK} (h:Fine aq y):xr y:=by
 obtain ⟨_,⟨h1,h2⟩,_⟩:=h
 exact ⟨h1,fun t ht=>⟨(h2 t ht).1.1,arg_rat (h2 t ht).2.1⟩⟩
end Go.Proofs.YtfbgaddecbiimaaGreatDoor.Q
end
section
namespace Go.Proofs.YtfbgaddecbiimaaGreatDoor.Q
open Go.RowKit Go.Proofs.YtfbgaddecbiimaaGreatDoorW.PrintWords Go.Proofs.YtfbgaddecbiimaaGreatDoorW.PrintMore Go.Proofs.YtfbgaddecbiimaaGreatDoor.V Go.Proofs.YtfbgaddecbiimaaGreatDoor.E
open Go.Proofs.YtfbgaddecbiimaaGreatDoor.P (Dg Nm vl WW RR cV gI evs evk evb ij aW cR cP w64 u64)
set_option linter.unusedVariables false
theorem cpy_pad {x:List Int} (h:x.length≤8):cpy (List.replicate 8 (0:Int)) x=lN x:=by
 rw [lN,dJ _ _ _ h]
 simp only [cpy,List.length_replicate,Nat.min_eq_left h,List.take_length,List.drop_replicate]
def RelT (t u:cx):Prop:=u.1=lN t.1∧∃ q,RB WW t.2.1 q∧RB RR u.2.1 q∧Sz WW 200 q∧Sz RR 800 q
section
variable {p:dK}
theorem ref_Of3 (ha:xr p) (hv:lK p):∃ r:List cx,Ev (fun k=>bW k p) r∧r.length=p.2.1.length∧∀ i (h:i<r.length),RelT (tmA p i) r[i]:=by
 have hfew:=hv.few
 have main:=dnw (n:=p.2.1.length) (P:=fun i=>∀ acc:List cx,acc.length=i→∃ r:List cx,r.length=p.2.1.length-i∧(∀ j (h:j<r.length),RelT (tmA p (i+j)) r[j])∧Ev2 (fun k m=>bW.l0 k m p.2.1 (p.2.1.length:Int) (i:Int) acc) (acc++r)) ?_ ?_ 0 (Nat.zero_le _) [] rfl
 ·obtain ⟨r,h1,h2,h3⟩:=main
  refine ⟨r,Ev.step (fun k=>j8 k p) h3.diag,by omega,fun i h=>?_⟩
  have:=h2 i h
  rwa [Nat.zero_add] at this
 ·intro acc hacc
  exact ⟨[],by simp,fun j h=>by simp at h,Ev2.step (fun k m=>bW.cF k m _ _ _ _) (Ev2.bF (decide_eq_false (by omega)) (by rw [List.append_nil];exact Ev2.of (evs _)))⟩
 ·intro i hi ih acc hacc
  obtain ⟨⟨c1,c2,c3,c4,c5⟩,_⟩:=hv.good i hi
  have h8:(tmA p i).1.length≤8:=by have:=hv.n8;omega
  obtain ⟨q,q1,q2⟩:=c4
  obtain ⟨v,v1,v2,v3⟩:=sJ q1 q2 (by omega)
  obtain ⟨r,r1,r2,r3⟩:=ih (acc++[(lN (tmA p i).1,v,())]) (by simp [hacc])
  refine ⟨(lN (tmA p i).1,v,()) :: r,by simp only [List.length_cons];omega,fun j h=>?_,?_⟩
  ·cases j with
   | zero=>exact ⟨rfl,q,q1,v2,q2,v3⟩
   | succ j =>
    have:=r2 j (by simpa using h)
    rw [show i+1+j=i+(j+1) by omega] at this
    exact this
  ·refine Ev2.step (fun k m=>bW.cF k m _ _ _ _) (Ev2.bT (decide_eq_true (by omega)) (Ev2.iT (by omega) (Ev2.iT (by simp) (Ev2.bind v1 (Ev2.iT ?_ ?_)))))
   ·simp only [List.length_cons,List.length_nil];omega
   ·rw [show cpy (List.replicate 8 (0:Int)) (rdT (t:=aF) p.2.1 (i:Int):cx).1=lN (tmA p i).1 from cpy_pad h8,wK (by omega)]
    rw [show acc++(lN (tmA p i).1,v,()) :: r=(acc++[(lN (tmA p i).1,v,())])++r by simp]
    exact r3
theorem pE {r:List cx} (hl:r.length≤9223372036854775807) (h:∀ i (h:i<r.length),r[i].1.length=8∧∀ x∈r[i].1,0≤x∧x≤1000000):∃ d,Ev (fun k=>bM k r) d:=by
 have main:=dnw (n:=r.length) (P:=fun i=>∀ x:Int,∃ d,Ev2 (fun k m=>bM.l0 k m x r (r.length:Int) (i:Int)) d) ?_ ?_ 0 (Nat.zero_le _) (-1)
 ·obtain ⟨d,hd⟩:=main
  exact ⟨d,Ev.step (fun k=>iE k r) hd.diag⟩
 ·exact fun x=>⟨x,Ev2.step (fun k m=>bM.cF k m _ _ _ _) (Ev2.bF (decide_eq_false (by omega)) (Ev2.of (evs _)))⟩
 ·intro i hi ih x
  obtain ⟨d,hd⟩:=ih (mx x (sE r[i].1))
  have e:(rdT (t:=ax) r (i:Int):cx)=r[i]:=mL hi
  refine ⟨d,Ev2.step (fun k m=>bM.cF k m _ _ _ _) (Ev2.bT (decide_eq_true (by omega)) (Ev2.iT (by omega) ?_))⟩
  rw [e]
  refine Ev2.bind (mI _ (h i hi).1 (h i hi).2) ?_
  rw [wK (by omega)]
  exact hd
theorem Aa {x:List Int} (h8:x.length≤8) (h:∀ y∈x,0≤y∧y≤40):∀ y∈lN x,0≤y∧y≤1000000:=fun y hy=>by
 rw [lN,dJ _ _ _ h8,List.mem_append,List.mem_replicate] at hy
 rcases hy with hy | hy
 ·have:=h y hy;omega
 ·omega
structure tY (p:dK) (a c:Nat):Prop where
 ok:lK p
 few:p.2.1.length≤a
 short:∀ i,i<p.2.1.length→(tmA p i).2.1.2.1.length≤c∧(tmA p i).2.1.2.2.1.length≤c
theorem mJ (ha:xr p) (a c:Nat) (b:Int):∃ t,Ev (fun k=>bI k p (a:Int) b (c:Int)) t∧(t=true→tY p a c):=by
 have hlen:=ha.1
 by_cases c0:p.1<0
 ·exact ⟨false,Ev.step (fun k=>dh k p _ _ _) (Ev.bind (a:=true) (bT (decide_eq_true c0) (evs _)) (Ev.bind (a:=true) (bT rfl (evs _)) (bT rfl (evs _)))),fun h=>by cases h⟩
 by_cases c8:p.1>8
 ·exact ⟨false,Ev.step (fun k=>dh k p _ _ _) (Ev.bind (a:=true) (bF (decide_eq_false c0) (evdT c8)) (Ev.bind (a:=true) (bT rfl (evs _)) (bT rfl (evs _)))),fun h=>by cases h⟩
 by_cases c4:p.2.1.length>a
 ·exact ⟨false,Ev.step (fun k=>dh k p _ _ _) (Ev.bind (a:=false) (bF (decide_eq_false c0) (AZ c8)) (Ev.bind (a:=true) (bF rfl (evdT (by omega))) (bT rfl (evs _)))),fun h=>by cases h⟩
 have fin:∃ t,Ev (fun k=>(aR k p).bind fun (v4:Bool) =>
  (bif v4 then (bW k p).bind fun (v5:List cx) =>
  (bM k v5).bind fun (v6:Int) =>
  some (decide (v6≤b)) else some false).bind fun (b7:Bool) =>
  some b7) t∧(t=true→lK p):=by
  by_cases hv:lK p
  ·have h1:=kS ha
   rw [iZ hv] at h1
   obtain ⟨r,r1,r2,r3⟩:=ref_Of3 ha hv
   obtain ⟨d,hd⟩:=pE (r:=r) (by have:=hv.few;omega) (fun i h=>by
    obtain ⟨g1,_⟩:=hv.good i (by omega)
    have h8:(tmA p i).1.length≤8:=by have:=hv.n8;have:=g1.len;omega
    rw [(r3 i h).1]
    exact ⟨dM _ _ _,Aa h8 g1.ex⟩)
   exact ⟨decide (d≤b),Ev.bind h1 (Ev.bind (bT rfl (Ev.bind r1 (Ev.bind hd (evs _)))) (evs _)),fun _=>hv⟩
  ·have h1:=kS ha
   rw [dO hv] at h1
   exact ⟨false,Ev.bind h1 (Ev.bind (a:=false) (bF rfl (evs _)) (evs _)),fun h=>by cases h⟩
 obtain ⟨t0,f1,f2⟩:=fin
 have main:=dnw (n:=p.2.1.length) (P:=fun i=>∃ t,Ev2 (fun k m=>bI.l0 k m b (c:Int) p.2.1 (p.2.1.length:Int) (i:Int) p) t∧(t=true→lK p∧∀ j,i≤j→j<p.2.1.length→(tmA p j).2.1.2.1.length≤c∧(tmA p j).2.1.2.2.1.length≤c)) ?_ ?_ 0 (Nat.zero_le _)
 ·obtain ⟨t,h1,h2⟩:=main
  refine ⟨t,Ev.step (fun k=>dh k p _ _ _) (Ev.bind (a:=false) (bF (decide_eq_false c0) (AZ c8)) (Ev.bind (a:=false) (bF rfl (AZ (by omega))) (bF rfl h1.diag))),fun h=>⟨(h2 h).1,by omega,fun i hi=>(h2 h).2 i (Nat.zero_le _) hi⟩⟩
 ·exact ⟨t0,Ev2.step (fun k m=>bI.cF k m _ _ _ _ _ _) (Ev2.bF (decide_eq_false (by omega)) (Ev2.of f1)),fun h=>⟨f2 h,fun j h1 h2=>by omega⟩⟩
 ·intro i hi ⟨t,h1,h2⟩
  have hsh:Ev (fun k=>cG k (tmA p i).2.1 (c:Int)) _:=mK (tmA p i).2.1 c
  by_cases d:(tmA p i).2.1.2.1.length≤c∧(tmA p i).2.1.2.2.1.length≤c
  ·rw [decide_eq_true d] at hsh
   refine ⟨t,Ev2.step (fun k m=>bI.cF k m _ _ _ _ _ _) (Ev2.bT (decide_eq_true (by omega)) (Ev2.iT (by omega) (Ev2.bind hsh (Ev2.bF rfl ?_)))),fun h=>⟨(h2 h).1,fun j g1 g2=>?_⟩⟩
   ·rw [wK (by omega)];exact h1
   ·by_cases e:j=i
    ·rw [e];exact d
    ·exact (h2 h).2 j (by omega) g2
  ·rw [decide_eq_false d] at hsh
   exact ⟨false,Ev2.step (fun k m=>bI.cF k m _ _ _ _ _ _) (Ev2.bT (decide_eq_true (by omega)) (Ev2.iT (by omega) (Ev2.bind hsh (Ev2.bT rfl (Ev2.of (evs _)))))),fun h=>by cases h⟩
theorem tz {q:dK} (ha:xr p) (hb:xr q):∃ t,Ev (fun k=>eD k p q) t∧(t=true→p.1=q.1∧tY p 12 2∧tY q 12 2):=by
 obtain ⟨t1,a1,a2⟩:=mJ ha 12 2 8
 obtain ⟨t2,b1,b2⟩:=mJ hb 12 2 8
 by_cases c:p.1=q.1
 ·refine ⟨t1&&t2,Ev.step (fun k=>fk k p q) (Ev.bind (a:=t1) (bT (by simp [c]) (Ev.bind a1 (evs _))) (Ev.bind (a:=t1&&t2) ?_ (evs _))),fun h=>?_⟩
  ·cases t1 with
   | true=>exact bT rfl (Ev.bind b1 (evs _))
   | false=>exact bF rfl (evs _)
  ·rw [Bool.and_eq_true] at h
   exact ⟨c,a2 h.1,b2 h.2⟩
 ·exact ⟨false,Ev.step (fun k=>fk k p q) (Ev.bind (a:=false) (bF (by simp [c]) (evs _)) (Ev.bind (a:=false) (bF rfl (evs _)) (evs _))),fun h=>by cases h⟩
end
end Go.Proofs.YtfbgaddecbiimaaGreatDoor.Q
end
section
namespace Go.Proofs.YtfbgaddecbiimaaGreatDoor.Q
open Go.RowKit Go.Proofs.YtfbgaddecbiimaaGreatDoorW.PrintWords Go.Proofs.YtfbgaddecbiimaaGreatDoorW.PrintMore Go.Proofs.YtfbgaddecbiimaaGreatDoor.V Go.Proofs.YtfbgaddecbiimaaGreatDoor.E
open Go.Proofs.YtfbgaddecbiimaaGreatDoor.P (Dg Nm vl WW RR TT asc cV gI evs evk evb ij aW cR cP kp w64 u64)
set_option linter.unusedVariables false
set_option maxRecDepth 100000
theorem zG {a:List Int} {n:Int} {s:ByteArray} (hl:a.length<68719476736) (ha:P.Can RR a n) (ht:Txt n s):Ev (fun k=>aw k a) s:=by
 refine Ev.step (fun k=>jm k a) ?_
 rcases ht with ⟨rfl,rfl⟩ | ⟨h0,D,d1,d2,d3,rfl⟩
 ·obtain rfl:=len_eq cP ha rfl
  unfold P.aw.f
  exact P.evp (by simp) (evs _)
 ·exact P.zW hl ha d1 h0
theorem zQ {v:gj} {p:Rat} {K:Nat} (hv:RB RR v p) (hp:Sz RR K p) (h:K<1000000) {t:ByteArray} (ht:RTxt p t):Ev (fun k=>bR k v) t:=by
 obtain ⟨l1,l2⟩:=mB kp hv hp
 obtain ⟨n,d,h1,h2,rfl⟩:=ht
 have sn:=h1.size
 have n1:=zG (by omega) hv.2.1 h1
 have c1:=s_Cmp (by omega) hv.2.2 (can1 kp)
 have fin:∀ x:ByteArray,x.size≤600→Ev (fun k=>bR.j0 k x v) (x++(if p.den=1 then (⟨#[]⟩:ByteArray) else (⟨#[47]⟩:ByteArray)++d)):=fun x hx=>by
  refine Ev.bind c1 ?_
  by_cases c:p.den=1
  ·rw [if_pos c,il]
   refine bF ?_ (evs _)
   rw [c]
   rfl
  ·rw [if_neg c]
   have sd:=(h2 c).size
   have hne:(ij (p.den:Int) 1 != 0)=true:=by
    have:=xi (p.den:Int) 1
    rw [bne,this,decide_eq_false (by omega)]
    rfl
   have s1:(⟨#[47]⟩:ByteArray).size=1:=rfl
   exact bT hne (Ev.bind (zG (by omega) hv.2.2 (h2 c)) (iT (by omega) (iT (by rw [ByteArray.size_append];omega) (evs _))))
 refine Ev.step (fun k=>jl k v) (Ev.bind n1 ?_)
 rw [hv.1]
 have s1:(⟨#[45]⟩:ByteArray).size=1:=rfl
 cases decide (p.num<0) with
 | true=>exact bT rfl (iT (by omega) (fin _ (by rw [ByteArray.size_append];omega)))
 | false=>exact bF rfl (fin _ (by omega))
theorem txt_pos {n:Int} {s:ByteArray} (h:Txt n s):0<s.size:=by
 rcases h with ⟨_,rfl⟩ | ⟨_,D,h1,h2,h3,rfl⟩
 ·decide
 ·rw [(P.Bz h1).1]
  exact List.length_pos_iff.2 h2
theorem zJ {p:Rat} {s:ByteArray} (h:RTxt p s):0<s.size∧s.size≤1200:=by
 obtain ⟨n,d,h1,h2,rfl⟩:=h
 have a:=txt_pos h1
 have b:=h1.size
 have s1:(⟨#[45]⟩:ByteArray).size=1:=rfl
 have s2:(⟨#[47]⟩:ByteArray).size=1:=rfl
 have s3:(⟨#[]⟩:ByteArray).size=0:=rfl
 have e:∀ x:ByteArray,0<x.size→x.size≤577→0<(x++(if p.den=1 then (⟨#[]⟩:ByteArray) else (⟨#[47]⟩:ByteArray)++d)).size∧(x++(if p.den=1 then (⟨#[]⟩:ByteArray) else (⟨#[47]⟩:ByteArray)++d)).size≤1200:=fun x x1 x2=>by
  by_cases c:p.den=1
  ·rw [if_pos c,ByteArray.size_append];omega
  ·rw [if_neg c,ByteArray.size_append,ByteArray.size_append]
   have:=(h2 c).size
   omega
 cases decide (p.num<0) with
 | true=>exact e _ (by show 0<(_++_:ByteArray).size;rw [ByteArray.size_append];omega) (by show (_++_:ByteArray).size≤577;rw [ByteArray.size_append];omega)
 | false=>exact e _ a (by show n.size≤577;omega)
theorem itoa_all:((List.range 41).all fun n=>match dE 10 (n:Int) with
 | some s=>Nat.ble s.size 2
 | none=>false)=true:=by kernel_rfl
noncomputable def yI (e:Int):ByteArray:=(dE 10 e).getD ⟨#[]⟩
theorem mb {e:Int} (h0:0≤e) (h1:e≤40):Ev (fun k=>dE k e) (yI e)∧(yI e).size≤2:=by
 obtain ⟨n,rfl⟩:=Int.eq_ofNat_of_zero_le h0
 have h:=List.all_eq_true.1 itoa_all n (by rw [List.mem_range];omega)
 cases hs:dE 10 (n:Int) with
 | none=>rw [hs] at h;cases h
 | some s =>
  rw [hs] at h
  have e1:yI (n:Int)=s:=by unfold yI;rw [hs];rfl
  rw [e1]
  exact ⟨⟨10,fun k hk=>wU wu hs k hk⟩,Nat.le_of_ble_eq_true h⟩
abbrev starB:ByteArray:=⟨#[42,120]⟩
abbrev hatB:ByteArray:=⟨#[94]⟩
abbrev sU:ByteArray:=⟨#[32,43,32]⟩
noncomputable def fx (j:Int) (e:Int):ByteArray:=if e>0 then (starB++yI j)++(if e>1 then hatB++yI e else ⟨#[]⟩) else ⟨#[]⟩
noncomputable def fxL (j:Nat):List Int→ByteArray
 | []=>⟨#[]⟩
 | e :: l=>fx (j:Int) e++fxL (j+1) l
theorem lH (a b c:ByteArray):a++b++c=a++(b++c):=by
 apply ByteArray.ext
 simp [ByteArray.data_append,Array.append_assoc]
theorem vi {j e:Int} (hj:0≤j) (hj':j≤40) (he:e≤40):(fx j e).size≤7:=by
 unfold fx
 have a:=(mb hj hj').2
 have s1:starB.size=2:=rfl
 have s2:hatB.size=1:=rfl
 have s3:(⟨#[]⟩:ByteArray).size=0:=rfl
 by_cases c:e>0
 ·have b:=(mb (show 0≤e by omega) he).2
  rw [if_pos c,ByteArray.size_append,ByteArray.size_append]
  by_cases d:e>1
  ·rw [if_pos d,ByteArray.size_append];omega
  ·rw [if_neg d];omega
 ·rw [if_neg c];omega
theorem wS:∀ {l:List Int} {j:Nat},j+l.length≤40→(∀ x∈l,x≤40)→(fxL j l).size≤7*l.length
 | [],_,_,_=>Nat.le_refl _
 | e :: l,j,h,hx=>by
  have a:=wS (l:=l) (j:=j+1) (by simp at h;omega) (fun x hx'=>hx x (by simp [hx']))
  have b:=vi (j:=(j:Int)) (e:=e) (by omega) (by simp at h;omega) (hx e (by simp))
  simp only [fxL,ByteArray.size_append,List.length_cons]
  omega
section
variable {p:dK} {i:Nat}
theorem poly_fx {R:ByteArray×Int×Unit} (hi:i<p.2.1.length) (hlen:p.2.1.length≤4000) {x:List Int} (h8:x.length≤8) (hx:∀ y∈x,0≤y∧y≤40) (r:List ByteArray) (hr:r.length≤4000) (s:ByteArray) (hs:s.size≤2000)
 (h:Ev2 (fun k m=>bZ.l0 k m p.2.1 (p.2.1.length:Int) ((i+1:Nat):Int) (r++[s++fxL 0 x])) R):Ev2 (fun k m0=>bZ.l1 k k m0 s p.2.1 (p.2.1.length:Int) (i:Int) x (x.length:Int) (0:Int) r) R:=by
 have key:=dnw (n:=x.length) (P:=fun j=>∀ s:ByteArray,s.size≤2000+7*j→Ev2 (fun k m=>bZ.l0 k m p.2.1 (p.2.1.length:Int) ((i+1:Nat):Int) (r++[s++fxL j (x.drop j)])) R→Ev3 (fun k m1 m0=>bZ.l1 k m1 m0 s p.2.1 (p.2.1.length:Int) (i:Int) x (x.length:Int) (j:Int) r) R) ?_ ?_ 0 (Nat.zero_le _) s (by omega) h
 ·exact key.diag
 ·intro s hs h
  rw [List.drop_length] at h
  have e:s++fxL x.length []=s:=il s
  rw [e] at h
  refine Ev3.step (fun k m1 m0=>bZ.gQ k m1 m0 _ _ _ _ _ _ _ _) (Ev3.bF (decide_eq_false (by omega)) (Ev3.iT (by simp;omega) (Ev3.of ?_)))
  rw [wK (by omega)]
  exact h
 ·intro j hj ih s hs h
  have e1:(rdT (t:=(.int .i64)) x (j:Int):Int)=x[j]:=mL hj
  have hxj:=hx x[j] (List.getElem_mem hj)
  have s1:(⟨#[42,120]⟩:ByteArray).size=2:=rfl
  have s2:(⟨#[94]⟩:ByteArray).size=1:=rfl
  obtain ⟨a1,a2⟩:=mb (show (0:Int)≤(j:Int) by omega) (by omega)
  obtain ⟨b1,b2⟩:=mb hxj.1 hxj.2
  rw [jZ hj] at h
  have next:∀ s',s'=s++fx (j:Int) x[j]→Ev3 (fun k m1 m0=>bZ.j0 k m0 m1 s' p.2.1 (p.2.1.length:Int) (i:Int) x (x.length:Int) (j:Int) r) R:=fun s' hs'=>by
   show Ev3 (fun k m1 m0=>bZ.l1 k m1 m0 s' p.2.1 (p.2.1.length:Int) (i:Int) x (x.length:Int) (wrap64 ((j:Int)+(1:Int))) r) R
   rw [wK (by omega)]
   have:=vi (j:=(j:Int)) (e:=x[j]) (by omega) (by omega) hxj.2
   refine ih s' (by rw [hs',ByteArray.size_append];omega) ?_
   rw [hs',lH]
   exact h
  refine Ev3.step (fun k m1 m0=>bZ.gQ k m1 m0 _ _ _ _ _ _ _ _) (Ev3.bT (decide_eq_true (by omega)) (Ev3.iT (by omega) ?_))
  rw [e1]
  by_cases c1:x[j]=1
  ·refine Ev3.bT (by rw [c1];rfl) (Ev3.bind a1 (Ev3.iT (by omega) (Ev3.iT (by rw [ByteArray.size_append];omega) (next _ ?_))))
   simp only [fx,c1]
   rw [if_pos (by omega),if_neg (by omega),il]
  ·refine Ev3.bF (by simp [c1]) ?_
   by_cases c2:x[j]>1
   ·refine Ev3.bT (decide_eq_true c2) (Ev3.bind a1 (Ev3.iT (by omega) (Ev3.iT (by rw [ByteArray.size_append];omega) (Ev3.bind b1 (Ev3.iT (by simp only [ByteArray.size_append];omega) (Ev3.iT (by simp only [ByteArray.size_append];omega) (next _ ?_)))))))
    simp only [fx]
    rw [if_pos (by omega),if_pos c2]
    simp only [lH]
   ·refine Ev3.bF (decide_eq_false c2) (next _ ?_)
    simp only [fx]
    rw [if_neg (by omega),il]
theorem ref_fx {R:ByteArray} (hi:i<p.2.1.length) (hlen:p.2.1.length≤4000) {x:List Int} (h8:x.length≤8) (hx:∀ y∈x,0≤y∧y≤40) (B:Nat) (hB:B≤1000000) (s:ByteArray) (hs:s.size≤B)
 (h:Ev2 (fun k m=>aH.l0 k m (s++fxL 0 x) p.2.1 (p.2.1.length:Int) ((i+1:Nat):Int)) R):Ev2 (fun k m0=>aH.l1 k k m0 s p.2.1 (p.2.1.length:Int) (i:Int) x (x.length:Int) (0:Int)) R:=by
 have key:=dnw (n:=x.length) (P:=fun j=>∀ s:ByteArray,s.size≤B+7*j→Ev2 (fun k m=>aH.l0 k m (s++fxL j (x.drop j)) p.2.1 (p.2.1.length:Int) ((i+1:Nat):Int)) R→Ev3 (fun k m1 m0=>aH.l1 k m1 m0 s p.2.1 (p.2.1.length:Int) (i:Int) x (x.length:Int) (j:Int)) R) ?_ ?_ 0 (Nat.zero_le _) s (by omega) h
 ·exact key.diag
 ·intro s hs h
  rw [List.drop_length] at h
  have e:s++fxL x.length []=s:=il s
  rw [e] at h
  refine Ev3.step (fun k m1 m0=>aH.gQ k m1 m0 _ _ _ _ _ _ _) (Ev3.bF (decide_eq_false (by omega)) (Ev3.of ?_))
  rw [wK (by omega)]
  exact h
 ·intro j hj ih s hs h
  have e1:(rdT (t:=(.int .i64)) x (j:Int):Int)=x[j]:=mL hj
  have hxj:=hx x[j] (List.getElem_mem hj)
  have s1:(⟨#[42,120]⟩:ByteArray).size=2:=rfl
  have s2:(⟨#[94]⟩:ByteArray).size=1:=rfl
  obtain ⟨a1,a2⟩:=mb (show (0:Int)≤(j:Int) by omega) (by omega)
  obtain ⟨b1,b2⟩:=mb hxj.1 hxj.2
  rw [jZ hj] at h
  have next:∀ s',s'=s++fx (j:Int) x[j]→Ev3 (fun k m1 m0=>aH.j2 k m0 m1 s' p.2.1 (p.2.1.length:Int) (i:Int) x (x.length:Int) (j:Int)) R:=fun s' hs'=>by
   show Ev3 (fun k m1 m0=>aH.l1 k m1 m0 s' p.2.1 (p.2.1.length:Int) (i:Int) x (x.length:Int) (wrap64 ((j:Int)+(1:Int)))) R
   rw [wK (by omega)]
   have:=vi (j:=(j:Int)) (e:=x[j]) (by omega) (by omega) hxj.2
   refine ih s' (by rw [hs',ByteArray.size_append];omega) ?_
   rw [hs',lH]
   exact h
  refine Ev3.step (fun k m1 m0=>aH.gQ k m1 m0 _ _ _ _ _ _ _) (Ev3.bT (decide_eq_true (by omega)) (Ev3.iT (by omega) ?_))
  rw [e1]
  by_cases c1:x[j]>0
  ·refine Ev3.bT (decide_eq_true c1) (Ev3.bind a1 (Ev3.iT (by omega) (Ev3.iT (by rw [ByteArray.size_append];omega) ?_)))
   by_cases c2:x[j]>1
   ·refine Ev3.bT (decide_eq_true c2) (Ev3.bind b1 (Ev3.iT (by omega) (Ev3.iT (by simp only [ByteArray.size_append];omega) (next _ ?_))))
    simp only [fx]
    rw [if_pos c1,if_pos c2]
    simp only [lH]
   ·refine Ev3.bF (decide_eq_false c2) (next _ ?_)
    simp only [fx]
    rw [if_pos c1,if_neg c2,il]
  ·refine Ev3.bF (decide_eq_false c1) (Ev3.bF (decide_eq_false (by omega)) (next _ ?_))
   simp only [fx]
   rw [if_neg c1,il]
theorem zo (ha:xr p) (hs:tY p 12 2) (i:Nat):∃ s:ByteArray,i<p.2.1.length→(Ev (fun k=>nI k (tmA p i).2.1) (s,0,())∧0<s.size∧s.size≤1200∧∃ v,Ev (fun k=>dP k (tmA p i).2.1) v∧Ev (fun k=>bR k v) s):=by
 by_cases hi:i<p.2.1.length
 ·obtain ⟨⟨_,_,_,⟨q,q1,q2⟩,_⟩,_⟩:=hs.ok.good i hi
  obtain ⟨l1,l2⟩:=hs.short i hi
  have q3:Sz WW 2 q:=zp aW q1 l1 l2
  obtain ⟨s,s1,s2⟩:=uD q1 q3 (by omega)
  obtain ⟨v,v1,v2,v3⟩:=sJ q1 q3 (by omega)
  obtain ⟨a,b⟩:=zJ s2
  exact ⟨s,fun _=>⟨s1,a,b,v,v1,zQ v2 v3 (by omega) s2⟩⟩
 ·exact ⟨⟨#[]⟩,fun h=>absurd h hi⟩
theorem n9 (k:Nat) (xs:List ByteArray) (sep:ByteArray):mD (k+1) xs sep=yH xs sep:=by kernel_rfl
theorem ba_len (x:ByteArray):x.data.toList.length=x.size:=by rw [Array.length_toList];rfl
noncomputable def rN (part:Nat→ByteArray):Nat→ByteArray
 | 0=>⟨#[]⟩
 | 1=>(⟨#[]⟩:ByteArray)++part 0
 | i+2=>(rN part (i+1)++sU)++part (i+1)
theorem sO (part:Nat→ByteArray) (B:Nat) (h:∀ i,(part i).size≤B):∀ i,(rN part i).size≤i*(B+3)
 | 0=>by show (⟨#[]⟩:ByteArray).size≤_;exact Nat.zero_le _
 | 1=>by
  have hb:=h 0
  have s3:(⟨#[]⟩:ByteArray).size=0:=rfl
  show ((⟨#[]⟩:ByteArray)++part 0).size≤_
  rw [ByteArray.size_append];omega
 | i+2=>by
  have ih:=sO part B h (i+1)
  have hb:=h (i+1)
  have s3:sU.size=3:=rfl
  show ((rN part (i+1)++sU)++part (i+1)).size≤_
  rw [ByteArray.size_append,ByteArray.size_append,show (i+2)*(B+3)=(i+1)*(B+3)+(B+3) by rw [show i+2=(i+1)+1 by omega,Nat.succ_mul]]
  omega
theorem sN {α:Type} (f:Nat→α) (m:Nat):(List.range (m+1)).map f=f 0 :: (List.range m).map (fun i=>f (i+1)):=by
 rw [List.range_succ_eq_map,List.map_cons,List.map_map];rfl
theorem sP (part:Nat→ByteArray):∀ n,(rN part (n+1)).data.toList=Lib.join ((List.range (n+1)).map fun i=>(part i).data.toList) sU.data.toList
 | 0=>by
  show ((⟨#[]⟩:ByteArray)++part 0).data.toList=_
  rw [show ((List.range (0+1)).map fun i=>(part i).data.toList)=[(part 0).data.toList] from rfl,Lib.join_one]
  simp [ByteArray.data_append]
 | n+1=>by
  have ih:=sP part n
  show ((rN part (n+1)++sU)++part (n+1)).data.toList=_
  rw [ByteArray.data_append,ByteArray.data_append,Array.toList_append,Array.toList_append,ih,sN _ (n+1),sN _ n,Lib.join_cons,Lib.join_cons]
  have hr:(List.range (n+1)).map (fun i=>(part (i+1)).data.toList)=(List.range n).map (fun i=>(part (i+1)).data.toList)++[(part (n+1)).data.toList]:=by
   rw [List.range_succ,List.map_append];rfl
  have:=Lib.joinTail_take_succ sU.data.toList ((List.range (n+1)).map (fun i=>(part (i+1)).data.toList)) n (part (n+1)).data.toList (by simp)
  rw [List.take_of_length_le (by simp)] at this
  rw [show ((List.range (n+1)).map (fun i=>(part (i+1)).data.toList)).take n=(List.range n).map (fun i=>(part (i+1)).data.toList) by rw [hr,List.take_left' (by simp)]] at this
  rw [this]
  simp only [List.append_assoc]
theorem zn (ha:xr p) (hs:tY p 12 2):∃ t,Ev (fun k=>bZ k p) (t,0,())∧Ev (fun k=>aH k p) t:=by
 have hv:=hs.ok
 have hfew:=hs.few
 have hval:=qT ha
 rw [iZ hv] at hval
 by_cases c0:p.2.1.length=0
 ·refine ⟨⟨#[48]⟩,Ev.step (fun k=>mO k p) (Ev.bind hval (bF rfl (Ev.bind (a:=true) (Ev.step (fun k=>k7 k p) (evk (by rw [c0];rfl))) (bT rfl (evs _))))),Ev.step (fun k=>fH k p) (Ev2.diag (g:=fun k m=>aH.l0 k m (⟨#[]⟩:ByteArray) p.2.1 (p.2.1.length:Int) (0:Int)) ?_)⟩
  exact Ev2.step (fun k m=>aH.cF k m _ _ _ _) (Ev2.bF (decide_eq_false (by omega)) (Ev2.bT (beq_self_eq_true _) (Ev2.of (evs _))))
 obtain ⟨n,hn⟩:∃ n,p.2.1.length=n+1:=⟨p.2.1.length-1,by omega⟩
 obtain ⟨tx,htx⟩:=Classical.axiomOfChoice (zo ha hs)
 have h8:∀ i,i<p.2.1.length→(tmA p i).1.length≤8:=fun i hi=>by have:=(hv.good i hi).1.len;have:=hv.n8;omega
 obtain ⟨part,hpart,hpart0⟩:∃ part:Nat→ByteArray,(∀ i,i<p.2.1.length→part i=tx i++fxL 0 (tmA p i).1)∧(∀ i,¬ i<p.2.1.length→part i=⟨#[]⟩):=⟨fun i=>if i<p.2.1.length then tx i++fxL 0 (tmA p i).1 else ⟨#[]⟩,fun i hi=>if_pos hi,fun i hi=>if_neg hi⟩
 have hsz:∀ i,(part i).size≤1300:=fun i=>by
  by_cases hi:i<p.2.1.length
  ·rw [hpart i hi,ByteArray.size_append]
   have a:=wS (l:=(tmA p i).1) (j:=0) (by have:=h8 i hi;omega) (fun x hx=>((hv.good i hi).1.ex x hx).2)
   have b:=(htx i hi).2.2.1
   have:=h8 i hi
   omega
  ·rw [hpart0 i hi];exact Nat.zero_le _
 have hrs:∀ i,i≤p.2.1.length→(rN part i).size≤20000:=fun i hi=>by
  have:=sO part 1300 hsz i
  have:i*(1300+3)≤12*1303:=Nat.mul_le_mul (by omega) (by omega)
  omega
 have hJ:yH ((List.range p.2.1.length).map part) sU=some (rN part p.2.1.length):=by
  have e:=sP part n
  rw [hn]
  unfold yH
  rw [List.map_map,show ((fun x:ByteArray=>x.data.toList) ∘ part)=fun i=>(part i).data.toList from rfl,← e]
  have hl:=ba_len (rN part (n+1))
  have:=hrs (n+1) (by omega)
  rw [if_pos ⟨by rw [List.length_map,List.length_range];omega,by omega⟩]
 refine ⟨rN part p.2.1.length,?_,?_⟩
 ·have main:=dnw (n:=p.2.1.length) (P:=fun i=>Ev2 (fun k m=>bZ.l0 k m p.2.1 (p.2.1.length:Int) (i:Int) ((List.range i).map part)) (rN part p.2.1.length,(0:Int),())) ?_ ?_ 0 (Nat.zero_le _)
  ·exact Ev.step (fun k=>mO k p) (Ev.bind hval (bF rfl (Ev.bind (a:=false) (Ev.step (fun k=>k7 k p) (evk (by rw [hn];rfl))) (bF rfl main.diag))))
  ·exact Ev2.step (fun k m=>bZ.cF k m _ _ _ _) (Ev2.bF (decide_eq_false (by omega)) (Ev2.bind (Ev.step (fun k=>n9 k _ _) (evk hJ)) (Ev2.of (evs _))))
  ·intro i hi ih
   obtain ⟨t1,t2,t3,_⟩:=htx i hi
   refine Ev2.step (fun k m=>bZ.cF k m _ _ _ _) (Ev2.bT (decide_eq_true (by omega)) (Ev2.iT (by omega) (Ev2.bind t1 ?_)))
   refine poly_fx hi (by omega) (h8 i hi) (hv.good i hi).1.ex _ (by simp;omega) (tx i) (by omega) ?_
   rw [← hpart i hi,show (List.range i).map part++[part i]=(List.range (i+1)).map part by rw [List.range_succ,List.map_append];rfl]
   exact ih
 ·have main:=dnw (n:=p.2.1.length) (P:=fun i=>Ev2 (fun k m=>aH.l0 k m (rN part i) p.2.1 (p.2.1.length:Int) (i:Int)) (rN part p.2.1.length)) ?_ ?_ 0 (Nat.zero_le _)
  ·exact Ev.step (fun k=>fH k p) main.diag
  ·refine Ev2.step (fun k m=>aH.cF k m _ _ _ _) (Ev2.bF (decide_eq_false (by omega)) (Ev2.bF ?_ (Ev2.of (evs _))))
   have hne:0<(rN part p.2.1.length).size:=by
    have h1:=(htx n (by omega)).2.1
    have h2:0<(part n).size:=by rw [hpart n (by omega),ByteArray.size_append];omega
    rw [hn]
    cases n with
    | zero=>show 0<((⟨#[]⟩:ByteArray)++part 0).size;rw [ByteArray.size_append];omega
    | succ n=>show 0<((rN part (n+1)++sU)++part (n+1)).size;rw [ByteArray.size_append];omega
   cases hb:((rN part p.2.1.length).toList==(⟨#[]⟩:ByteArray).toList) with
   | false=>rfl
   | true =>
    have h1:=eq_of_beq hb
    rw [ByteArray.toList_eq,ByteArray.toList_eq] at h1
    have h2:=congrArg List.length h1
    have h3:=ba_len (rN part p.2.1.length)
    have h4:(⟨#[]⟩:ByteArray).data.toList.length=0:=rfl
    omega
  ·intro i hi ih
   obtain ⟨t1,t2,t3,v,t4,t5⟩:=htx i hi
   have fin:∀ s:ByteArray,s.size≤20010→rN part (i+1)=s++part i→Ev2 (fun k m=>aH.j0 k m s p.2.1 (p.2.1.length:Int) (i:Int) (tmA p i)) (rN part p.2.1.length):=fun s h1 h2=>by
    refine Ev2.bind t4 (Ev2.bind t5 (Ev2.iT (by omega) ?_))
    refine ref_fx hi (by omega) (h8 i hi) (hv.good i hi).1.ex 30000 (by omega) _ (by rw [ByteArray.size_append];omega) ?_
    rw [lH]
    show Ev2 (fun k m=>aH.l0 k m (s++(tx i++fxL 0 (tmA p i).1)) p.2.1 (p.2.1.length:Int) ((i+1:Nat):Int)) _
    rw [← hpart i hi,← h2]
    exact ih
   have hri:=hrs i (by omega)
   have s3:(⟨#[32,43,32]⟩:ByteArray).size=3:=rfl
   refine Ev2.step (fun k m=>aH.cF k m _ _ _ _) (Ev2.bT (decide_eq_true (by omega)) (Ev2.iT (by omega) ?_))
   cases i with
   | zero=>exact Ev2.bF (decide_eq_false (by omega)) (fin _ (by omega) rfl)
   | succ i0=>exact Ev2.bT (decide_eq_true (by omega)) (Ev2.iT (by omega) (fin _ (by rw [ByteArray.size_append];omega) rfl))
theorem rq (ha:xr p):Ev (fun k=>e8 k p) true:=by
 refine Ev.step (fun k=>gS k p) (Ev.bind Bw (bF rfl ?_))
 obtain ⟨t,h1,h2⟩:=tz ha ha
 refine Ev.bind h1 ?_
 cases t with
 | false=>exact bT rfl (evs _)
 | true =>
  obtain ⟨T,T1,T2⟩:=zn ha (h2 rfl).2.1
  refine bF rfl (Ev.bind T1 (Ev.bind (bT rfl (Ev.bind T2 ?_)) (evs _)))
  rw [beq_self_eq_true]
  exact evs _
end
end Go.Proofs.YtfbgaddecbiimaaGreatDoor.Q
end
section
namespace Go.Proofs.YtfbgaddecbiimaaGreatDoor.polyTexts
open Go.ChangeShapes Go.WideShapes Go.ChangeAt Go.RowKit
open Go.ChangeMaps (open_string shut_string)
open Go.Proofs.YtfbgaddecbiimaaGreatDoor.V Go.Proofs.YtfbgaddecbiimaaGreatDoor.E
theorem own:ownKnob Tryz.prog.godebug=none:=by kernel_rfl
theorem laidOut:laidOutB Tryz.prog=true:=by kernel_rfl
def zg:DataW Unit→Array Value
 | .agg l=>(l.map fun d=>match d with
  | .lit (.int k n)=>Value.int k n
  | _=>undef).toArray
 | _=>#[]
noncomputable def tA (os:Os):World :=
 let w0:=World.holding Tryz.prog os ⟨#[],#[],[]⟩
 { w0 with heap:=((w0.heap.modify 2 fun
  | .cells _ t frozen=>.cells (zg Rows.laid_math_bits_deBruijn32tab) t frozen
  | o=>o).modify 3 fun
  | .cells _ t frozen=>.cells (zg Rows.laid_math_bits_deBruijn64tab) t frozen
  | o=>o).modify 0 fun
  | .cells _ t frozen=>.cells (zg Rows.laid_internal_strconv_uint64pow10) t frozen
  | o=>o }
theorem laid_met (os:Os) (args:Array Value):laidMet Tryz.prog Rows.polyTextsRow.laid ((tA os).forCall (fun _ _=>0) ⟨#[],args,[]⟩).memory :=
 laidMet_of_run' 8 (by kernel_rfl) (by kernel_rfl)
set_option maxRecDepth 100000 in
theorem lifted (os:Os) (started:os.Started) (H:Type) (enc:TypeId×Value→H) :
 ReturnsInHanded {} Tryz.checked os 3 .any (fun w args=>(Rows.polyTextsSpec.pre enc Tryz.prog Tryz.f3 Rows.polyTextsRow.domain false w args∧laidMet Tryz.prog Rows.polyTextsRow.laid w)∧sizedMet enc Tryz.prog Tryz.f3 (OpenSpec.ofChange Rows.polyTextsSpec) false w args)
  (Rows.polyTextsSpec.post enc Tryz.prog Tryz.f3 false true false false):=by
 refine returnsInHanded_of_change_and (C:=Tryz.checked) (X:=fun w _=>laidMet Tryz.prog Rows.polyTextsRow.laid w) (fun _ _ _ hh h=>h.of_heap hh) own started (by kernel_rfl) Tryz.func3
  (ChangeSpec.witness_at (enc:=enc) (C:=Tryz.checked) (os:=os) (X:=fun w _=>laidMet Tryz.prog Rows.polyTextsRow.laid w) false (tA os) #[.agg #[.int .i64 0,.slice none 0 0]] 8 rfl (by kernel_rfl) (by kernel_rfl) (by kernel_rfl) (by kernel_rfl) (by kernel_rfl) (laid_met os _)) ?_
 intro W base args ds gs before hval0 hW _ hsz0 hL _
 have hval:∀ (j:Nat) t v,Tryz.f3.params[j]?=some t→args[j]?=some v→Value.okWide Tryz.prog W .any base t v:=hval0
 have hW':=hW
 obtain ⟨p,q,hA0,hV,rfl,hfz,hnd⟩:=hW
 have hA:DataW.TrodAll enc Tryz.prog W 0 (fun _=>true) true Tryz.f3.params.toList args.toList ds p:=hA0
 rw [Tryz.params3] at hA hval
 obtain ⟨v0,vs0,d0,ds0,p0,q0,hargs,rfl,rfl,h0,r0⟩:=trodAll_cons hA
 obtain ⟨rfl,rfl,rfl⟩:=trodAll_nil r0
 obtain rfl:args = #[v0]:=by cases args;simp_all
 obtain ⟨rfl,rfl⟩:=trodVars_none hV
 have k0:=h0
 have lt0:∀ x∈p0,x.block<W.heap.size:=by obtain ⟨m,hm⟩:=k0;exact DataW.trod_lt m _ _ _ hm
 obtain ⟨y0,f0,g0⟩:=arg_den Q.tab_ok (n:=16) (t:=24) (c:=aq) (by kernel_rfl) (by kernel_rfl) (hval 0 24 v0 rfl rfl) h0
 clear hA0 hval0 hsz0
 obtain ⟨k,hk⟩:=(Q.rq (Q.arg_poly f0)).rounds
 obtain ⟨_,pv,hp,hF⟩:=(wV Q.tab_ok orc_ok Q.mixed Q.noGo k).fn 3 [.v aq y0] true rfl hk
 obtain rfl:=Option.some.inj hp
 refine (hF (fun b=>b<W.heap.size) W #[v0] (fun b h=>h) rfl (fun i h=>?_)).mono fun e W' ⟨v,he,bel,hv⟩=>?_
 ·match i,h with
  | 0,h=>exact g0
  | i+1,h=>exact absurd h (by simp only [List.length_map,List.length_cons,List.length_nil];omega)
 ·have hb:=e9 hv
  subst hb
  subst he
  exact ⟨_,rfl,_,_,_,[],_,[],hW',trodAll_mk1 (shut_bool Tryz.underlying4 _),(trodAll_cons_mk (Below.trod laidOut (by kernel_rfl) (of_decide_eq_true (by kernel_rfl)) k0 bel lt0) trodAll_mk0),rfl,bel.frame _,fun h=>by cases h⟩
theorem over:Rows.polyTextsRow.holds Tryz.pinned (OpenSpec.ofChange Rows.polyTextsSpec) :=
 OpenClaim.holds_of_wide 3 Tryz.f3 rfl rfl rfl rfl rfl rfl rfl ⟨rfl,rfl,rfl,rfl,rfl⟩ rfl rfl rfl rfl rfl (by kernel_rfl) Tryz.func3 (by kernel_rfl)
  (of_decide_eq_true (by kernel_rfl)) (by unfold Func.isWrapper;first | (rw [if_pos (by decide +kernel)];kernel_rfl) | (rw [if_neg (by decide +kernel)];exact ⟨rfl,rfl⟩))
  (fun os started H enc _=>lifted os started H enc)
theorem proved:Rows.PolyTextsCardSaid :=
 Claim7.holds_tied_plain_at .later [] [.data,.data,.data] true (true,"7c1c4094e72754773423f799c4afd1ed3b246fc2b5dc0deefca3ede80156512f") false
  over (fun _ h=>by cases h) (by kernel_rfl) (fun _ h=>by cases h) polyTexts_row_tie rfl ⟨rfl,rfl⟩ (by kernel_rfl) rfl
  (fun f fn hf hfn=>by
   obtain rfl:f=3:=Option.some.inj ((show Tryz.prog.funcNamed "isochrone/isochronelaw03.PolyTexts" = some 3 by kernel_rfl).symm.trans hf) |>.symm
   obtain rfl:fn=Tryz.f3:=(Option.some.inj (Tryz.func3.symm.trans hfn)).symm
   exact ⟨by kernel_rfl,fun j t ht=>by
    rw [Tryz.params3] at ht
    have ht2:t=24:=by
     match j,ht with
     | 0,ht=>simp at ht;subst ht;simp
     | j+1,ht=>simp at ht
    rcases ht2 with rfl
    ·exact (show Tryz.prog.wantsStandIn 24=false by kernel_rfl)⟩)
  (by kernel_rfl)
#print axioms proved
end Go.Proofs.YtfbgaddecbiimaaGreatDoor.polyTexts
namespace Go.Proofs.YtfbgaddecbiimaaGreatDoor
theorem polyTexts_holds:Rows.PolyTextsCardSaid:=polyTexts.proved
end Go.Proofs.YtfbgaddecbiimaaGreatDoor
end
