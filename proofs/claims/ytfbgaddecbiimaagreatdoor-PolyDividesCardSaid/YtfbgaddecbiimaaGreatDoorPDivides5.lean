/- An evaluator of the program's code, what its functions come to, and what they mean: text 5. No condition. -/
import Init
import Derived.Test.YtfbgaddecbiimaaGreatDoorPDivides4
set_option linter.unusedSimpArgs false
set_option linter.unusedSectionVars false
set_option linter.unusedVariables false
set_option maxRecDepth 100000
set_option maxHeartbeats 4000000
noncomputable section
section
namespace Go.Proofs.YtfbgaddecbiimaaGreatDoor.P
open Go.RowKit Go.Proofs.YtfbgaddecbiimaaGreatDoorW.PrintWords Go.Proofs.YtfbgaddecbiimaaGreatDoorW.PrintLast Go.Proofs.YtfbgaddecbiimaaGreatDoorW.PrintMore
theorem OM {ut Pj X M W qd vq N vu:Int} (b:vu=ut+Pj*X) (a:vu+M*((Pj*W)*vq)=N):(ut+Pj*(X-qd*M))+M*(Pj*(qd+W*vq))=N:=by grind
theorem sV {a b P:Int} (h:a*P<b*P) (hP:0<P):a<b:=Int.lt_of_mul_lt_mul_right h (Vz hP)
theorem dm_l0 {v:List Int} {s nn:Nat} {M top next N:Int} (hs:s<32) (hn2:2<=nn) (hv:v.length=nn) (dv:Dg WW v) (eM:vl WW v=M) (et:rd v ((nn-1:Nat):Int)=top) (en:rd v ((nn-2:Nat):Int)=next) (ht:2147483648<=top) (d:Nat) :
 ∀ (i:Nat) (q u:List Int),i=d->i+nn<=u.length->u.length<68719476736->q.length=u.length-nn->Dg WW u->Dg WW (q.drop i)->vl WW (u.drop i)<M->vl WW u+M*(WW ^ i*vl WW (q.drop i))=N ->
 ∃ q' r',Ev (fun k=>aJ.l0 k q (s:Int) v u (nn:Int) top next ((i:Int)-1)) (q',r')/\Can WW q' (N / M)/\Can WW r' (N % M / 2 ^ s):=by
 have w0:(0:Int)<WW ^ (nn-2):=jH aH _;have bt:=dQ dv ((nn-1:Nat):Int) Q2 Q2;have bn:=dQ dv ((nn-2:Nat):Int) Q2 Q2;rw [et,cS] at bt;rw [en,cS] at bn;obtain ⟨ml,Q,J,H⟩:=two dv nn hn2 hv;rw [et,en,eM] at H;generalize hP:WW ^ (nn-2)=P at *
 have o:(top*WW+next)*P<=M:=Q2;have p:M<(top*WW+next+1)*P:=by rw [WN _ 1 P,VP];omega
 have C:WW*P<=M:=by
  have:WW*P<=(top*WW+next)*P:=QQ (by rw [cS];omega) Q2;omega
 have b:0<M:=by
  have:0<WW*P:=WX aH w0;omega
 induction d with
 | zero =>
  rintro i q u rfl h1 h2 h3 h4 h5 h6 h7;rw [V9] at h5 h6 h7;rw [WO,VP] at h7;have b0:=bO aH h4;have e1:N / M=vl WW q:=by rw [<- h7,Wm _ _ Q2,VG b0 h6,XS]
  have e2:N % M=vl WW u:=by rw [<- h7,Wf,VF b0 h6]
  obtain ⟨q',q1,q2,q3⟩:=fV (l:=q) Q2 h5;obtain ⟨x,x1,x2,x3⟩:=fV (l:=u) Q2 h4;obtain ⟨y,y1,y2,y3⟩:=sT s Q2 Q2 x2;refine ⟨q',y,?_,by rw [e1];exact q2,by rw [e2];exact y2⟩;refine Ev.step (fun k=>by rw [aJ.l0]) ?_;exact eL Q2 (Ev.bind q1 (Ev.bind x1 (Ev.bind y1 (aV _))))
 | succ d ih =>
  rintro i q u rfl h1 h2 h3 h4 h5 h6 h7;have u0:=dQ h4 (d:Int) Q2 Q2;have eX:vl WW (u.drop d)=rd u (d:Int)+WW*vl WW (u.drop (d+1)):=by rw [fP u d Q2,vl]
  have nx:=bO aH (h4.drop (d+1));have F:vl WW (u.drop d)<WW*M:=by
   have:WW*(vl WW (u.drop (d+1))+1)<=WW*M:=Ql Q2 (by decide);rw [WY,Int.mul_one] at this;omega
  have G:=bO aH (h4.drop d);have A:M<WW ^ nn:=by
   have:=gC aH dv;rw [hv,eM] at this;exact this
  have hz:vl WW (u.drop (d+(nn+1)))=0:=by
   have sv:=KU u d (nn+1) Q2;have g0:=bO aH (h4.drop (d+(nn+1)));have g1:=bO aH ((h4.take (d+(nn+1))).drop d);rcases Wt 0 (vl WW (u.drop (d+(nn+1)))) with c | c
   ·exfalso;have hp:(0:Int)<WW ^ (nn+1):=jH aH _;have a1:WW ^ (nn+1)*1<=WW ^ (nn+1)*vl WW (u.drop (d+(nn+1))):=Ql Q2 Q2;have a2:WW*M<WW*WW ^ nn:=XY A aH;rw [QM,QH (WW ^ nn) WW] at a1 sv;omega
   omega
  obtain ⟨lo,O,z,eZ⟩:=three h4 d nn hn2 Q2 hz;rw [hP] at eZ z;have b2:=dQ h4 ((d+nn:Nat):Int) Q2 Q2;have b1:=dQ h4 ((d+nn-1:Nat):Int) Q2 Q2;have b0:=dQ h4 ((d+nn-2:Nat):Int) Q2 Q2;rw [cS] at b2 b1 b0;have r:=iE WW u d Q2;generalize hX:vl WW (u.drop d)=X at *
  generalize hx2:rd u ((d+nn:Nat):Int)=x2 at *
  generalize hx1:rd u ((d+nn-1:Nat):Int)=x1 at *
  generalize hx0:rd u ((d+nn-2:Nat):Int)=x0 at *
  have I:((x2*WW+x1)*WW+x0)*P<=X:=Q2;have B:X<((x2*WW+x1)*WW+x0+1)*P:=by rw [WN _ 1 P,VP];omega
  have a:0<=X / M:=VA G Q2;have R:=Vt X M;have K:=V4 X (show M≠0 by omega);have L:=QU X b;have hq:X / M*M<=X:=by rw [QH];omega
  have e:X<(X / M+1)*M:=by rw [WN,VP,QH];omega
  have f:X / M<4294967296:=VZ b (by rw [<- cS];exact F);generalize hQ:X / M=qd at *
  have t:x2*WW+x1<=top*WW+next:=by
   have a1:((x2*WW+x1)*WW+x0)*P<(WW*(top*WW+next+1))*P:=by
    have:WW*M<WW*((top*WW+next+1)*P):=XY p aH;rw [Ws];omega
   have a2:=sV a1 w0;rw [cS] at a2 ⊢;omega
  have m:0<=x2*WW+x1:=by rw [cS];omega
  have h:=Gq b2 b1;rw [<- cS] at h;generalize hH:x2*WW+x1=high at *
  have d1:=Vt high top;have d2:=V4 high (show top≠0 by omega);have d3:=QU high (show 0<top by omega);have d0:0<=high / top:=VA m Q2;have gq:qd<=high / top:=by
   refine Int.le_ediv_of_mul_le Q2 ?_;have a1:qd*((top*WW+next)*P)<=qd*M:=Ql o a;have a2:(qd*(top*WW+next))*P<(high*WW+x0+1)*P:=by rw [Ws];omega
   have a3:=sV a2 w0;have a4:qd*(top*WW+next)=(qd*top)*WW+qd*next:=by grind
   have a5:0<=qd*next:=QX a bn.1;rw [cS] at a3 a4;omega
  have gW:high / top<=4294967297/\(high / top=4294967297->high % top+top<4294967296):=by
   have a1:top*(high / top)<=top*WW+next:=Q2;constructor
   ·rcases Wt 4294967297 (high / top) with c | c
    ·exfalso;have:top*4294967298<=top*(high / top):=Ql Q2 Q2;rw [cS] at a1;omega
    exact c
   intro c;rw [c] at d1;rw [cS] at t;omega
  obtain ⟨g,g1,g2,g3,g4⟩:=Mj (q:=q) (v:=v) (u:=u) (s:=(s:Int)) (nn:=nn) (j:=d) (X:=X) (M:=M) (P:=P) (top:=top) (next:=next) (x0:=x0) (high:=high) (qd:=qd) Q2 hn2 Q2 hx0 Q2 bt.2 bn.1 bn.2 b0.1 b0.2 o Q2 C I B w0 hq e f a _ (high / top) (high % top) rfl (by rw [QH];exact d1) d2 Q2 gq gW.1 gW.2;obtain ⟨u2,v1,v2,v3,v4,v5⟩:=Mk (q:=q) (v:=v) (u:=u) (s:=(s:Int)) (top:=top) (next:=next) (nn:=nn) (j:=d) (X:=X) (M:=M) (qd:=qd) (g:=g) Q2 hv dv eM Q2 Q2 h4 hX hz hq e f a g1 g2 g3;have n:=iE WW u2 d Q2;rw [v3,v4] at n;obtain ⟨q',r',e1,e2⟩:=ih d (q.set d qd) u2 rfl Q2 Q2 (by rw [Vg,v1];exact h3) v2
   (by rw [fH _ _ _ Q2];exact Dg.mk a (by rw [cS];exact f) h5)
   (by rw [v4];rw [WN,VP] at e;omega)
   (by
    rw [fH _ _ _ Q2,vl,n];rw [QM] at h7;exact OM r h7)
  refine ⟨q',r',?_,e2⟩;refine Ev.step (fun k=>by rw [aJ.l0]) ?_;have w:high / top<18446744073709551616:=Q2;have D:=g4 _ (v5 _ e1);rw [show (((d+1:Nat):Int)-1)=(d:Int) by omega,show (d:Int)+(nn:Int)=((d+nn:Nat):Int) by omega,cD (x:=((d+nn:Nat):Int)) Q2 Q2,show ((d+nn:Nat):Int)-1=((d+nn-1:Nat):Int) by omega,cD (x:=((d+nn-1:Nat):Int)) Q2 Q2,hx2,hx1,u64 (x:=x2) Q2 Q2,u64 (x:=x1) Q2 Q2,u64 (x:=x2*4294967296) Q2 Q2,<- cS,h,fO m,fU m,u64 (x:=high / top) d0 w];clear h;exact bB Q2 (bB Q2 (bB Q2 (bB Q2 (bB Q2 (eL Q2 D)))))
theorem Ms {t:List Int} {n:Nat} (h:t.length<=n) (dt:Dg WW t):(kN (List.replicate n 0) t).length=n/\Dg WW (kN (List.replicate n 0) t)/\vl WW (kN (List.replicate n 0) t)=vl WW t:=by
 have e:kN (List.replicate n 0) t=t++List.replicate (n-t.length) 0:=by
  unfold kN;rw [QI,QO h,Qw,List.drop_replicate]
 rw [e];refine ⟨by simp;omega,dt.append (Dg.rep aH _),?_⟩;rw [jx,Ax,W6,Ve]
theorem Kx {s:Nat} (h:s<=31):(2:Int) ^ s<=2147483648:=by
 have h2:(2:Int) ^ s<=2 ^ 31:=by
  have:2 ^ s<=2 ^ 31:=XH (by decide) h
  exact_mod_cast this
 exact Vf h2 (by decide)
theorem normed {b:List Int} {m:Int} {L:Nat} (hb:Can WW b m) (hp:0<b.length) (d:rd b ((b.length:Int)-1)<2 ^ L) (c:2 ^ (L-1)<=rd b ((b.length:Int)-1)) (hL:1<=L) (hL2:L<=32) :
 m*2 ^ (32-L)<WW ^ b.length/\2147483648*WW ^ (b.length-1)<=m*2 ^ (32-L):=by
 have lv:=uc (a:=b) hp;rw [hb.2.2] at lv;have hd:=hb.1.take (b.length-1);have l0:=bO aH hd;have l1:=gC aH hd;rw [Qd,QO Q2] at l1;have hP:(0:Int)<WW ^ (b.length-1):=jH aH _;have hs:=two_pos (32-L);have e1:WW ^ b.length=(2 ^ L*WW ^ (b.length-1))*2 ^ (32-L):=by
  have:b.length=(b.length-1)+1:=Q2;rw [this,QM,Xk,QH (2 ^ L),Ws,<- Va,show L+(32-L)=32 by omega];rfl
 have e2:2147483648*WW ^ (b.length-1)=(2 ^ (L-1)*WW ^ (b.length-1))*2 ^ (32-L):=by
  rw [QH (2 ^ (L-1)),Ws,<- Va,show L-1+(32-L)=31 by omega,QH];rfl
 generalize rd b ((b.length:Int)-1)=x at *
 have m1:(x+1)*WW ^ (b.length-1)<=2 ^ L*WW ^ (b.length-1):=QQ Q2 Q2;have m2:2 ^ (L-1)*WW ^ (b.length-1)<=x*WW ^ (b.length-1):=QQ c Q2;rw [WN] at m1;rw [e1,e2];exact ⟨WE Q2 hs,QQ Q2 Q2⟩
theorem mV {a b:List Int} {n m:Int} (hn:a.length<17179869184) (ha:Can WW a n) (hb:Can WW b m) (hm:0<m) :
 ∃ q r,Ev (fun k=>aJ.f k a b) (q,r)/\Can WW q (n / m)/\Can WW r (n % m):=by
 have n0:=ha.fz aH;have lb:0<b.length:=by
  rcases X0 b.length with c | c
  ·have:=(hb.jP aH).1 c;omega
  exact c
 have hc:=sU Q2 ha hb
 by_cases c1:n<m
 ·have e:dK n m = -1:=by unfold dK;rw [Qk c1]
  rw [e] at hc;refine ⟨[],a,?_,?_,?_⟩
  ·unfold aJ.f;refine Ev.bind hc (bB Q2 (bB (by simp;omega) ?_));exact aV _
  ·rw [VG n0 c1];exact Can.zero _
  rw [VF n0 c1];exact ha
 have g:¬ dK n m<0:=by unfold dK;rw [Qc c1];split<;>omega
 have w:b.length<=a.length:=lZ ha hb Q2;have bx:=dQ hb.1 ((b.length:Int)-1) Q2 Q2;have bz:=hb.2.1.rd lb;rw [cS] at bx
 by_cases c2:b.length=1
 ·have e1:m=rd b 0:=by
   have:=uc (a:=b) lb;rw [hb.2.2,c2] at this;simpa [vl] using this
  rw [c2] at bx;have l:0<=m/\m<4294967296:=by rw [e1];exact bx
  obtain ⟨q,q1,q2,q3⟩:=yi Q2 ha (K:=m) ⟨Q2,l.2⟩;have r0:=V4 n (show m≠0 by omega);have r1:=QU n hm;obtain ⟨r,r2,r3⟩:=gD (a:=n % m) r0 Q2;refine ⟨q,r,?_,q2,r3⟩;unfold aJ.f;refine Ev.bind hc (eL g (bB Q2 (bB Q2 ?_)));rw [<- e1];refine Ev.bind q1 ?_;rw [u64 (x:=n % m) Q2 Q2];exact Ev.bind r2 (aV _)
 obtain ⟨L,z1,z2,z3,z4⟩:=Ic bx.1 bx.2;obtain ⟨z5,z6⟩:=z4 bz;obtain ⟨M1,M2⟩:=normed hb lb z3 z5 z6 z2;have hs:=two_pos (32-L);have i:=Kx (s:=32-L) Q2;obtain ⟨v,v1,v2,v3⟩:=yk (32-L) Q2 hb;obtain ⟨t,t1,t2,t3⟩:=yk (32-L) Q2 ha;have d:v.length=b.length:=by
  have h1:=v2.gy bC M1;have h2:WW ^ (b.length-1)<=m*2 ^ (32-L):=by
   have:(0:Int)<WW ^ (b.length-1):=jH aH _;omega
  have h3:=v2.len_ge bC h2;omega
 have h:2147483648<=rd v ((b.length-1:Nat):Int):=by
  have lv:=uc (a:=v) Q2;rw [v2.2.2,d,show (b.length:Int)-1=((b.length-1:Nat):Int) by omega] at lv;have hd:=v2.1.take (b.length-1);have l1:=gC aH hd;rw [Qd,QO Q2] at l1;have hP:(0:Int)<WW ^ (b.length-1):=jH aH _;have h3:2147483648*WW ^ (b.length-1)<(rd v ((b.length-1:Nat):Int)+1)*WW ^ (b.length-1):=by
   rw [WN];omega
  have:=sV h3 hP;omega
 obtain ⟨u1,u2,u3⟩:=Ms (t:=t) (n:=a.length+1) Q2 t2.1;generalize hu:kN (List.replicate (a.length+1) 0) t=u at *
 rw [t2.2.2] at u3;have o:=dQ v2.1 ((b.length-1:Nat):Int) Q2 Q2;have p:=dQ v2.1 ((b.length-2:Nat):Int) Q2 Q2;rw [cS] at o p;have j:vl WW (u.drop (a.length+1-b.length))<m*2 ^ (32-L):=by
  rcases Wt (vl WW (u.drop (a.length+1-b.length))) (m*2 ^ (32-L)) with c | c
  ·exact c
  exfalso;have hd:=iE WW u (a.length+1-b.length) Q2;rw [u3] at hd;have l0:=bO aH (u2.take (a.length+1-b.length));have y:(0:Int)<WW ^ (a.length+1-b.length):=jH aH _;have a1:WW ^ (a.length+1-b.length)*(2147483648*WW ^ (b.length-1))<=WW ^ (a.length+1-b.length)*vl WW (u.drop (a.length+1-b.length)):=Ql Q2 Q2;have a2:WW ^ (a.length+1-b.length)*(2147483648*WW ^ (b.length-1))=2147483648*WW ^ a.length:=by
   rw [Int.mul_left_comm,<- Va,show a.length+1-b.length+(b.length-1)=a.length by omega]
  have a3:n*2 ^ (32-L)<WW ^ a.length*2 ^ (32-L):=WE (ha.lt aH) hs;have z:(0:Int)<WW ^ a.length:=jH aH _;have a4:WW ^ a.length*2 ^ (32-L)<=WW ^ a.length*2147483648:=Ql i Q2;omega
 obtain ⟨q,r,r1,r2,r3⟩:=dm_l0 (s:=32-L) (nn:=b.length) (v:=v) (N:=n*2 ^ (32-L)) Q2 Q2 d v2.1 v2.2.2 rfl rfl h (a.length+1-b.length) (a.length+1-b.length) (List.replicate (a.length+1-b.length) 0) u rfl Q2 Q2 (by rw [QI,u1]) u2
  (by rw [QG Q3];exact Dg.nil _) j (by rw [QG Q3,vl,W6,W6,Ve];exact u3)
 rw [Int.mul_ediv_mul_of_pos_left _ _ hs] at r2;rw [QH n,QH m,Int.mul_emod_mul_of_pos _ _ hs,Int.mul_ediv_cancel_left _ Q2] at r3;refine ⟨q,r,?_,r2,r3⟩;unfold aJ.f;refine Ev.bind hc (eL g (eL Q2 ?_));rw [cD (x:=(b.length:Int)-1) Q2 Q2,cD (x:=(a.length:Int)+1) Q2 Q2];refine bB Q2 (bB Q2 (kL z1 (Ev.bind v1 (bB Q2 (bB Q2 (kL rfl (Ev.bind t1 ?_)))))));rw [show ((a.length:Int)+1).toNat=a.length+1 by omega,hu,QI,d,show ((a.length+1:Nat):Int)-(b.length:Int)=((a.length+1-b.length:Nat):Int) by omega,cD (x:=((a.length+1-b.length:Nat):Int)) Q2 Q2,cD (x:=((a.length+1-b.length:Nat):Int)-1) Q2 Q2,show (b.length:Int)-1=((b.length-1:Nat):Int) by omega,show (b.length:Int)-2=((b.length-2:Nat):Int) by omega,cD (x:=((b.length-1:Nat):Int)) Q2 Q2,cD (x:=((b.length-2:Nat):Int)) Q2 Q2,u64 (x:=rd v ((b.length-1:Nat):Int)) Q2 Q2,u64 (x:=rd v ((b.length-2:Nat):Int)) Q2 Q2,Int.toNat_natCast];exact bB Q2 (bB Q2 (bB Q2 (bB Q2 (bB Q2 (bB Q2 r1)))))
theorem Mo {l:List Int} (h:∀ x∈l,(Lit.int .u32 x).wf=true):Dg WW l:=by
 intro x hx;have h1:=h x hx;have h2:IntKind.u32.min=0:=rfl;have h3:IntKind.u32.max=4294967295:=rfl;simp only [Lit.wf,Qm,Vc,h2,h3] at h1;rw [cS];omega
theorem Dl {a:List Int} (hl:a.length<=4) (ha:Dg RR a) (d:Nat):∀ (i:Nat) (x:Int),i=d->i<=a.length->x=vl RR (a.drop i)->Ev (fun k=>aR.l0 k a x ((i:Int)-1)) (vl RR a,true):=by
 have bd:∀ i:Nat,i<=a.length->0<=vl RR (a.drop i)/\vl RR (a.drop i)<10000000000000000:=by
  intro i hi;have h1:=gC aW (ha.drop i);have h2:=fy (B:=RR) (by decide) (show (a.drop i).length<=4 by rw [Qq];omega);have h3:RR ^ 4=10000000000000000:=by decide
  exact ⟨bO aW (ha.drop i),Q2⟩
 induction d with
 | zero =>
  rintro i x rfl h1 h2;rw [V9] at h2;subst h2;refine Ev.step (fun k=>by rw [aR.l0]) ?_;exact eL Q2 (aV _)
 | succ d ih =>
  rintro i x rfl h1 h2;have hx:=dQ ha (d:Int) Q2 Q2;rw [eC] at hx;have b1:=bd (d+1) Q2;have b0:=bd d Q2;have e:x*10000+rd a (d:Int)=vl RR (a.drop d):=by
   rw [h2,fP a d Q2,vl,eC];omega
  have b:=ih d (x*10000+rd a (d:Int)) rfl Q2 e;refine Ev.step (fun k=>by rw [aR.l0]) ?_;rw [show (((d+1:Nat):Int)-1)=(d:Int) by omega,cD (x:=x*10000) Q2 Q2,cD (x:=x*10000+rd a (d:Int)) Q2 Q2,cD (x:=(d:Int)-1) Q2 Q2];exact bB Q2 (bB Q2 (bB Q2 b))
theorem mw {a:List Int} {n:Int} (hl:a.length<4611686018427387904) (ha:Can RR a n):(a.length<=4->Ev (fun k=>aR.f k a) (n,true))/\(4<a.length->Ev (fun k=>aR.f k a) (0,false)):=by
 constructor
 ·intro h;have:=Dl h ha.1 a.length a.length 0 rfl (Qn _) (by rw [V2];rfl);rw [ha.2.2] at this;unfold aR.f;rw [cD (x:=(a.length:Int)-1) Q2 Q2];exact eL Q2 this
 intro h;unfold aR.f;exact bB Q2 (aV _)
theorem EK {r b:List Int} {x m:Int} (hr:r.length<34359738368) (hb:b.length<34359738368) (cr:Can RR r x) (cb:Can RR b m) (hm:0<m) (hx:x<m*10000) (c:Nat):∀ q:Int,(10000-q).toNat<=c->0<=q->q<=9999->m*q<=x->Ev (fun k=>an.l3 k r b q) (x / m):=by
 have a:∀ q:Int,0<=q->m*q<=x->x<m*(q+1)->x / m=q:=by
  intro q h0 h1 h2;have d1:=Vt x m;have d2:=V4 x (show m≠0 by omega);have d3:=QU x hm;have l1:m*q<m*(x / m+1):=by rw [WY];omega
  have l2:m*(x / m)<m*(q+1):=Q2;have l3:=Y3 l1 (Vz hm);have l4:=Y3 l2 (Vz hm);omega
 induction c with
 | zero=>intro q h1 h2 h3 h4;omega
 | succ c ih =>
  intro q h1 h2 h3 h4;refine Ev.step (fun k=>by rw [an.l3]) ?_;rw [cD (x:=q+1) Q2 Q2]
  by_cases c1:q+1<10000
  ·obtain ⟨s,s1,s2,s3⟩:=j7 (k0:=q+1) (c0:=0) Q2 cb ⟨Q2,Q2⟩ ⟨Q2,Q2⟩;rw [Ve] at s2;have k1:=eD Q2 s2 cr
   by_cases c2:m*(q+1)<=x
   ·refine bB c1 (Ev.bind s1 (Ev.bind k1 (bB ?_ (ih (q+1) Q2 Q2 Q2 c2))));unfold dK;split<;>(try split)<;>omega
   rw [a q h2 h4 Q2];refine bB c1 (Ev.bind s1 (Ev.bind k1 (eL ?_ (aV _))));unfold dK;rw [Qc Q2,Qc Q2];omega
  have e:q=9999:=Q2;subst e;rw [a 9999 h2 h4 Q2];exact eL c1 (aV _)
theorem Ml {r b:List Int} {x m:Int} (hr:r.length<34359738368) (hb:b.length<34359738368) (cr:Can RR r x) (cb:Can RR b m) (hm:0<m) (hx:x<m*10000) (c:Nat):∀ q:Int,q.toNat<=c->0<=q->q<=9999->Ev (fun k=>an.l2 k r b q) (x / m):=by
 have x0:=cr.fz aW
 induction c with
 | zero =>
  intro q h1 h2 h3;have e:q=0:=Q2;subst e;obtain ⟨s,s1,s2,s3⟩:=j7 (k0:=0) (c0:=0) Q2 cb ⟨Q2,Q2⟩ ⟨Q2,Q2⟩;rw [Ve,W6] at s2;have k1:=eD Q2 s2 cr;refine Ev.step (fun k=>by rw [an.l2]) ?_;refine Ev.bind s1 (Ev.bind k1 (eL ?_ (EK hr hb cr cb hm hx _ 0 (Qn _) Q2 Q2 Q2)));unfold dK;split<;>(try split)<;>omega
 | succ c ih =>
  intro q h1 h2 h3;obtain ⟨s,s1,s2,s3⟩:=j7 (k0:=q) (c0:=0) Q2 cb ⟨Q2,Q2⟩ ⟨Q2,Q2⟩;rw [Ve] at s2;have k1:=eD Q2 s2 cr;refine Ev.step (fun k=>by rw [an.l2]) ?_;rw [cD (x:=q-1) Q2 Q2]
  by_cases c2:m*q<=x
  ·refine Ev.bind s1 (Ev.bind k1 (eL ?_ (EK hr hb cr cb hm hx _ q (Qn _) h2 h3 c2)));unfold dK;split<;>(try split)<;>omega
  have hq:q≠0:=fun h=>by rw [h,W6] at c2;omega
  refine Ev.bind s1 (Ev.bind k1 (bB ?_ (ih (q-1) Q2 Q2 Q2)));unfold dK;rw [Qc Q2,Qc Q2];omega
theorem EL {r b:List Int} {x m t low:Int} (hr:r.length<34359738368) (hb:b.length<34359738368) (cr:Can RR r x) (cb:Can RR b m) (hm:0<m) (hx:x<m*10000) (ht:0<=t/\t<4611686018427387904) (hl:0<low):Ev (fun k=>an.j2 k r b t low) (x / m):=by
 have q0:0<=t / low:=VA ht.1 Q2;have q1:t / low<=t:=WH _ ht.1;refine Ev.step (fun k=>by rw [an.j2]) ?_;rw [fO ht.1,cD (x:=t / low) Q2 Q2];refine eL Q2 (Ml hr hb cr cb hm hx _ _ (Qn _) ?_ ?_)
 ·unfold mn;split<;>omega
 unfold mn;split<;>omega
theorem Mm {r b:List Int} {x m t:Int} (hr:r.length<34359738368) (hb:b.length<34359738368) (cr:Can RR r x) (cb:Can RR b m) (hm:0<m) (hx:x<m*10000) (ht:0<=t/\t<4611686018427387904):Ev (fun k=>an.l1 k r b (b.length:Int) t 0 ((b.length:Int)-1)) (x / m):=by
 have lb:b.length≠0:=fun h=>by have:=(cb.jP aW).1 h;omega
 have h1:=dQ cb.1 ((b.length:Int)-1) Q2 Q2;have z1:=cb.2.1.rd Q2;rw [eC] at h1
 by_cases c:b.length=1
 ·rw [c] at h1 z1;have e0:((1:Nat):Int)-1=0:=Q2;rw [e0] at h1 z1;have hj:=EL hr hb cr cb hm hx ht (low:=rd b 0) Q2;have em:mx 0 (wrap64 (((1:Nat):Int)-2))=0:=by rw [cD Q2 Q2];unfold mx;split<;>omega
  refine Ev.step (fun k=>by rw [an.l1]) ?_;rw [c,em,e0,cD (x:=0*10000) Q2 Q2,cD (x:=0*10000+rd b 0) Q2 Q2,cD (x:=0-1) Q2 Q2];refine bB Q2 (bB Q2 (bB Q2 ?_));refine Ev.step (fun k=>by rw [an.l1]) ?_;rw [em];exact eL Q2 (bB Q2 (bB Q2 hj))
 have h2:=dQ cb.1 ((b.length:Int)-2) Q2 Q2;rw [eC] at h2;have em:mx 0 (wrap64 ((b.length:Int)-2))=(b.length:Int)-2:=by rw [cD Q2 Q2];unfold mx;split<;>omega
 have hj:=EL hr hb cr cb hm hx ht (low:=(0*10000+rd b ((b.length:Int)-1))*10000+rd b ((b.length:Int)-2)) Q2;refine Ev.step (fun k=>by rw [an.l1]) ?_;rw [em,cD (x:=0*10000) Q2 Q2,cD (x:=0*10000+rd b ((b.length:Int)-1)) Q2 Q2,cD (x:=(b.length:Int)-1-1) Q2 Q2,show (b.length:Int)-1-1=(b.length:Int)-2 by omega];refine bB Q2 (bB Q2 (bB Q2 ?_));refine Ev.step (fun k=>by rw [an.l1]) ?_;rw [em,cD (x:=(0*10000+rd b ((b.length:Int)-1))*10000) Q2 Q2,cD (x:=(0*10000+rd b ((b.length:Int)-1))*10000+rd b ((b.length:Int)-2)) Q2 Q2,cD (x:=(b.length:Int)-2-1) Q2 Q2];refine bB Q2 (bB Q2 (bB Q2 ?_));refine Ev.step (fun k=>by rw [an.l1]) ?_;rw [em];exact eL Q2 (eL Q2 hj)
theorem Mn {r b:List Int} {x m:Int} (hr:r.length<34359738368) (hb:b.length<34359738368) (cr:Can RR r x) (cb:Can RR b m) (hm:0<m) (hx:x<m*10000) (c:Nat):∀ (t i:Int),(i+1-mx 0 ((b.length:Int)-2)).toNat=c->-1<=i->i<=b.length->0<=t->t<10000 ^ (3-c)->c<=3->Ev (fun k=>an.l0 k r b (b.length:Int) t 0 i) (x / m):=by
 have em:wrap64 ((b.length:Int)-2)=(b.length:Int)-2:=by rw [cD Q2 Q2]
 have d:0<=mx 0 ((b.length:Int)-2):=by unfold mx;split<;>omega
 induction c with
 | zero =>
  intro t i h1 h2 h3 h4 h5 h6;have:=Mm hr hb cr cb hm hx (t:=t) ⟨h4,Int.lt_trans h5 (by decide)⟩;refine Ev.step (fun k=>by rw [an.l0]) ?_;rw [em,cD (x:=(b.length:Int)-1) Q2 Q2];exact eL Q2 this
 | succ c ih =>
  intro t i h1 h2 h3 h4 h5 h6;have hp:(10000:Int) ^ (3-(c+1))*10000=10000 ^ (3-c):=by
   rw [<- QM];congr 1;omega
  have hq:(10000:Int) ^ (3-c)<=10000 ^ 3:=fy (by decide) Q2;have e:(10000:Int) ^ 3=1000000000000:=by decide
  refine Ev.step (fun k=>by rw [an.l0]) ?_;rw [em,cD (x:=t*10000) Q2 Q2,cD (x:=i-1) Q2 Q2];refine bB Q2 ?_
  by_cases c1:i<(r.length:Int)
  ·have a:=dQ cr.1 i Q2 Q2;rw [eC] at a;rw [cD (x:=t*10000+rd r i) Q2 Q2];exact bB c1 (bB Q2 (ih (t*10000+rd r i) (i-1) Q2 Q2 Q2 Q2 Q2 Q2))
  exact eL c1 (ih (t*10000) (i-1) Q2 Q2 Q2 Q2 Q2 Q2)
theorem F2 {r b:List Int} {x m:Int} (hr:r.length<34359738368) (hb:b.length<34359738368) (cr:Can RR r x) (cb:Can RR b m) (hm:0<m) (hx:x<m*10000):Ev (fun k=>an.f k r b) (x / m):=by
 unfold an.f;have a:(((b.length:Int)+1-mx 0 ((b.length:Int)-2)).toNat)<=3:=by unfold mx;split<;>omega
 exact Mn hr hb cr cb hm hx _ 0 _ rfl Q2 (Vl _) Q2 (Vu (by decide)) a
theorem ML {x m q d a R va:Int} (h:x+m*q=va):(x*R+a-m*d)+m*(d+R*q)=a+R*va:=by grind
theorem NH {a b:List Int} {n m:Int} (hn:a.length<17179869184) (hb:b.length<17179869184) (ha:Can RR a n) (cb:Can RR b m) (hm:0<m) (d:Nat):∀ (i:Nat) (q r:List Int) (x:Int),i=d->i<=a.length->q.length=a.length->Dg RR (q.drop i)->Can RR r x->x<m->x+m*vl RR (q.drop i)=vl RR (a.drop i)->(∀ j:Nat,j<i->rd q (j:Int)=0) ->
 ∃ q' r',Ev (fun k=>aG.l0 k a b q r ((i:Int)-1)) (q',r')/\Can RR q' (n / m)/\Can RR r' (n % m)/\q'.length<=a.length:=by
 induction d with
 | zero =>
  rintro i q r x rfl h1 h2 h3 h4 h5 h6 h7;rw [V9,V9,ha.2.2] at h6;rw [V9] at h3;have x0:=h4.fz aW;obtain ⟨t,t1,t2,t3⟩:=nA (l:=q) Q2 h3;have e1:n / m=vl RR q:=by rw [<- h6,Wm _ _ Q2,VG x0 h5,XS]
  have e2:n % m=x:=by rw [<- h6,Wf,VF x0 h5]
  refine ⟨t,r,?_,by rw [e1];exact t2,by rw [e2];exact h4,Q2⟩;refine Ev.step (fun k=>by rw [aG.l0]) ?_;exact eL Q2 (Ev.bind t1 (aV _))
 | succ d ih =>
  rintro i q r x rfl h1 h2 h3 h4 h5 h6 h7;have hx:=dQ ha.1 (d:Int) Q2 Q2;rw [eC] at hx;have x0:=h4.fz aW;have lr:=kI cb h4 Q2;obtain ⟨t,t1,t2,t3⟩:=j7 (k0:=10000) (c0:=rd a (d:Int)) Q2 h4 ⟨Q2,Q2⟩ ⟨hx.1,Q2⟩;have k1:=eD Q2 t2 cb
  by_cases c1:x*10000+rd a (d:Int)<m
  ·obtain ⟨q',r',e1,e2⟩:=ih d q t (x*10000+rd a (d:Int)) rfl Q2 h2
    (by rw [fP q d Q2];exact Dg.mk (by rw [h7 d Q2];omega) (by rw [h7 d Q2];decide) h3) t2 c1
    (by
     have:=ML (R:=RR) (a:=rd a (d:Int)) (d:=0) h6;rw [fP q d Q2,fP a d Q2,vl,vl,h7 d Q2];rw [W6,YD] at this;exact this) (fun j hj=>h7 j Q2)
   refine ⟨q',r',?_,e2⟩;refine Ev.step (fun k=>by rw [aG.l0]) ?_;rw [show (((d+1:Nat):Int)-1)=(d:Int) by omega,cD (x:=(d:Int)-1) Q2 Q2];refine bB Q2 (bB Q2 (bB Q2 (Ev.bind t1 (Ev.bind k1 (bB ?_ e1)))));unfold dK;rw [Qk c1];omega
  have d1:=Vt (x*10000+rd a (d:Int)) m;have d2:=V4 (x*10000+rd a (d:Int)) (show m≠0 by omega);have d3:=QU (x*10000+rd a (d:Int)) hm;have hg:=F2 (r:=t) (b:=b) Q2 Q2 t2 cb hm Q2;have g0:0<=(x*10000+rd a (d:Int)) / m:=VA Q2 Q2;have g1:(x*10000+rd a (d:Int)) / m<10000:=VZ hm Q2;generalize hG:(x*10000+rd a (d:Int)) / m=g at *
  obtain ⟨s,s1,s2,s3⟩:=j7 (k0:=g) (c0:=0) Q2 cb ⟨Q2,Q2⟩ ⟨Q2,Q2⟩;rw [Ve] at s2;obtain ⟨y,y1,y2,y3⟩:=Dn Q2 t2 s2 Q2;have hs:=zL q (d:Int) g Q2;rw [Int.toNat_natCast] at hs;obtain ⟨q',r',e1,e2⟩:=ih d (q.set d g) y (x*10000+rd a (d:Int)-m*g) rfl Q2 (by simpa using h2)
   (by rw [fH _ _ _ Q2];exact Dg.mk g0 (by rw [eC];exact g1) h3) y2 Q2
   (by
    rw [fH _ _ _ Q2,fP a d Q2,vl,vl];exact ML h6)
   (fun j hj=>by
    have:=Jo q (d:Int) (j:Int) g Q2;rw [Int.toNat_natCast] at this;rw [this];exact h7 j Q2)
  refine ⟨q',r',?_,e2⟩;refine Ev.step (fun k=>by rw [aG.l0]) ?_;rw [show (((d+1:Nat):Int)-1)=(d:Int) by omega,cD (x:=(d:Int)-1) Q2 Q2,Int.toNat_natCast];refine bB Q2 (bB Q2 (bB Q2 (Ev.bind t1 (Ev.bind k1 (eL ?_ (Ev.bind hg (bB Q2 (kL rfl ?_))))))))
  ·unfold dK;rw [Qc c1];split<;>omega
  rw [hs];exact Ev.bind s1 (Ev.bind y1 e1)
theorem oE {a:Int} (b:0<=a) (d:a<100000000000000000):∃ r,Ev (fun k=>aK.f k a) r/\Can RR r a:=by
 by_cases c:a<10000000000000
 ·exact Dp b c
 obtain ⟨r,h2,h3⟩:=Dq a (a / 10000).toNat [a % 10000] (a / 10000) Q2 Q2 (by simp;omega) (Dg.mk Q2 (by rw [eC];omega) (Dg.nil _)) (fun h=>Q2) (by
  show a % 10000+RR*0+a / 10000*RR ^ 1=a;rw [eC];omega)
 refine ⟨r,?_,h3⟩;refine Ev.congr (fun k=>by rw [aK.f]) ?_;refine Ev.step (fun k=>by rw [aK.l0]) ?_;rw [fU b,fO b,cD (x:=a / 10000) Q2 Q2];exact bB Q2 (bB Q3 h2)
theorem vG {a b:List Int} {n m:Int} (hn:a.length<1073741824) (hb:b.length<1073741824) (ha:Can RR a n) (cb:Can RR b m) (hm:0<m) :
 ∃ q r,Ev (fun k=>aG.f k a b) (q,r)/\Can RR q (n / m)/\Can RR r (n % m)/\q.length<1073741824/\r.length<1073741824:=by
 have n0:=ha.fz aW;have hc:=eD Q2 ha cb;have r0:=V4 n (show m≠0 by omega);have r1:=QU n hm;have i:∀ q r,Can RR q (n / m)->Can RR r (n % m)->q.length<1073741824/\r.length<1073741824:=by
  intro q r hq hr;have l1:=kI ha hq (WH _ n0);have l2:=kI cb hr Q2;omega
 have l:∃ q r,Ev (fun k=>aG.f k a b) (q,r)/\Can RR q (n / m)/\Can RR r (n % m):=by
  by_cases c1:n<m
  ·refine ⟨[],a,?_,by rw [VG n0 c1];exact Can.zero _,by rw [VF n0 c1];exact ha⟩;unfold aG.f;refine Ev.bind hc (bB ?_ (aV _));unfold dK;rw [Qk c1];omega
  have c:¬ dK n m<0:=by unfold dK;rw [Qc c1];split<;>omega
  have p:=kI ha cb Q2;obtain ⟨h,d⟩:=mw Q2 ha;obtain ⟨g,s⟩:=mw Q2 cb
  by_cases c2:a.length<=4
  ·have o:=ha.lt aW;have h4:=fy (B:=RR) (by decide) c2;have h5:RR ^ 4=10000000000000000:=by decide
   have q0:0<=n / m:=VA n0 Q2;have q1:n / m<=n:=WH _ n0;obtain ⟨x,x1,x2⟩:=oE (a:=n / m) q0 Q2;obtain ⟨y,y1,y2⟩:=oE (a:=n % m) r0 Q2;refine ⟨x,y,?_,x2,y2⟩;unfold aG.f;refine Ev.bind hc (eL c (Ev.bind (h c2) (bB rfl (Ev.bind (g Q2) (eL (show ¬ m=0 by omega) ?_)))));rw [fO n0,fU n0,cD (x:=n / m) Q2 Q2];exact Ev.bind x1 (Ev.bind y1 (aV _))
  by_cases c3:b.length=1
  ·have hx:=dQ cb.1 0 Q2 Q2;rw [eC] at hx;have em:m=rd b 0:=by
    have e:=dL RR b 0 Q2;rw [show 0+1=b.length by omega,Qw,cb.2.2] at e;simpa [vl] using e
   obtain ⟨q,q1,q2,q3⟩:=xC Q2 ha (K:=m) ⟨Q2,Q2⟩;obtain ⟨y,y1,y2⟩:=oE (a:=n % m) r0 Q2;refine ⟨q,y,?_,q2,y2⟩;unfold aG.f;refine Ev.bind hc (eL c (Ev.bind (d Q2) (eL Q3 (bB Q2 (bB Q2 ?_)))));rw [<- em];exact Ev.bind q1 (Ev.bind y1 (aV _))
  obtain ⟨q,r,e1,e2,e3,e4⟩:=NH Q2 Q2 ha cb hm a.length a.length (List.replicate a.length 0) [] 0 rfl (Qn _) Q3 (by rw [QG Q3];exact Dg.nil _) (Can.zero _) hm (by rw [QG Q3,V2];simp [vl]) (fun j hj=>by rw [lN _ _ (by simpa using hj)];simp);refine ⟨q,r,?_,e2,e3⟩;unfold aG.f;refine Ev.bind hc (eL c (Ev.bind (d Q2) (eL Q3 (eL Q2 (bB Q2 (bB Q2 ?_))))));rw [cD (x:=(a.length:Int)-1) Q2 Q2,Int.toNat_natCast];exact e1
 obtain ⟨q,r,e1,e2,e3⟩:=l;exact ⟨q,r,e1,e2,e3,i q r e2 e3⟩
def gI (a b:Int):Int:=((Int.gcd a b:Nat):Int)
theorem Od (a b:Int):gI a b=gI b a:=by unfold gI;rw [YE]
theorem wP {a:Int} (h:0<=a):gI a 0=a:=by
 unfold gI;rw [Int.gcd_zero_right];omega
theorem L4 (a b k:Int):gI b (a-k*b)=gI a b:=by
 unfold gI;rw [Int.gcd_sub_mul_right_right,YE]
theorem yz (a b:Int):gI b (a % b)=gI a b:=by
 rw [Int.emod_def,QH b];exact L4 a b (a / b)
theorem gI_le {a b:Int} (h:0<b):gI a b<=b:=by
 unfold gI;exact Int.le_of_dvd h (WQ a b)
theorem Lc (c:Nat):∀ x y:Int,y.toNat=c->0<=x->x<100000000000000000->0<=y->y<100000000000000000->∃ r,Ev (fun k=>aA.l1 k x y) r/\Can RR r (gI x y):=by
 induction c using Nat.strongRecOn with
 | _ c ih =>
  intro x y hc x0 x1 y0 y1
  by_cases c1:y>0
  ·have m0:=V4 x (show y≠0 by omega);have m1:=QU x c1;obtain ⟨r,r1,r2⟩:=ih (x % y).toNat Q2 y (x % y) rfl y0 y1 m0 Q2;rw [yz] at r2;refine ⟨r,?_,r2⟩;refine Ev.step (fun k=>by rw [aA.l1]) ?_;rw [fU x0];exact bB c1 (eL Q2 r1)
  have e:y=0:=Q2;subst e;obtain ⟨r,r1,r2⟩:=oE x0 x1;rw [wP x0];refine ⟨r,?_,r2⟩;refine Ev.step (fun k=>by rw [aA.l1]) ?_;exact eL Q2 (Ev.bind r1 (aV _))
theorem Ld (c:Nat):∀ (a b:List Int) (n m:Int),m.toNat=c->a.length<1073741824->b.length<1073741824->Can RR a n->Can RR b m->∃ r,Ev (fun k=>aA.l0 k a b) r/\Can RR r (gI n m):=by
 induction c using Nat.strongRecOn with
 | _ c ih =>
  intro a b n m hc la lb ha hb;have n0:=ha.fz aW;have m0:=hb.fz aW;have hz:=hb.jP aW
  by_cases c1:m=0
  ·have e:=hz.2 c1;rw [c1,wP n0];refine ⟨a,?_,ha⟩;refine Ev.step (fun k=>by rw [aA.l0]) ?_;exact eL Q2 (aV _)
  have e:b.length≠0:=fun h=>c1 (hz.1 h);have mp:0<m:=Q2;obtain ⟨j,i⟩:=mw Q2 ha;obtain ⟨f,g⟩:=mw Q2 hb;have h5:RR ^ 4=10000000000000000:=by decide
  have d:∀ x y,∃ r,Ev (fun k=>aA.j1 k a b x y false) r/\Can RR r (gI n m):=by
   intro x y;have r0:=V4 n (show m≠0 by omega);have r1:=QU n mp;obtain ⟨q,r,d1,d2,d3,d4,d5⟩:=vG la lb ha hb mp;obtain ⟨z,z1,z2⟩:=ih (n % m).toNat Q2 b r m (n % m) rfl lb d5 hb d3;rw [yz] at z2;refine ⟨z,?_,z2⟩;refine Ev.step (fun k=>by rw [aA.j1]) ?_;exact eL Q3 (Ev.bind d1 z1)
  by_cases c2:a.length<=4
  ·by_cases c3:b.length<=4
   ·have p:=ha.lt aW;have h4:=fy (B:=RR) (by decide) c2;have l:=hb.lt aW;have o:=fy (B:=RR) (by decide) c3;obtain ⟨z,z1,z2⟩:=Lc _ n m rfl n0 Q2 m0 Q2;refine ⟨z,?_,z2⟩;refine Ev.step (fun k=>by rw [aA.l0]) ?_;refine bB Q2 (Ev.bind (j c2) (Ev.bind (f c3) (bB rfl ?_)));refine Ev.step (fun k=>by rw [aA.j1]) ?_;exact bB rfl z1
   obtain ⟨z,z1,z2⟩:=d n 0;refine ⟨z,?_,z2⟩;refine Ev.step (fun k=>by rw [aA.l0]) ?_;exact bB Q2 (Ev.bind (j c2) (Ev.bind (g Q2) (bB rfl z1)))
  by_cases c3:b.length<=4
  ·obtain ⟨z,z1,z2⟩:=d 0 m;refine ⟨z,?_,z2⟩;refine Ev.step (fun k=>by rw [aA.l0]) ?_;exact bB Q2 (Ev.bind (i Q2) (Ev.bind (f c3) (eL Q3 z1)))
  obtain ⟨z,z1,z2⟩:=d 0 0;refine ⟨z,?_,z2⟩;refine Ev.step (fun k=>by rw [aA.l0]) ?_;exact bB Q2 (Ev.bind (i Q2) (Ev.bind (g Q2) (eL Q3 z1)))
theorem Lh {a b:List Int} {n m:Int} (la:a.length<1073741824) (lb:b.length<1073741824) (ha:Can RR a n) (hb:Can RR b m):∃ r,Ev (fun k=>aA.f k a b) r/\Can RR r (gI n m):=by
 unfold aA.f;exact Ld _ a b n m rfl la lb ha hb
theorem kx {r:List Int} {v:Int} (hr:Can WW r v) (hl:r.length<=2):fg.f r=some (v,true):=by
 unfold fg.f
 by_cases c:r.length=0
 ·rw [(hr.jP aH).1 c,Qk Q2]
 have e:=uc (a:=r) Q2;have v0:=hr.fz aH;have h0:=dQ hr.1 0 Q2 Q2;rw [cS] at h0;rw [hr.2.2] at e
 by_cases h1:r.length=1
 ·rw [h1] at e;have e2:v=rd r 0:=by simpa [vl] using e
  rw [Qc Q2,Qk Q2,Qk Q2,<- e2,u64 (x:=v) Q2 Q2]
 have h2:r.length=2:=Q2;have hx:=dQ hr.1 1 Q2 Q2;rw [cS] at hx;have e3:=dL WW r 0 Q2;have e4:v=rd r 1*4294967296+rd r 0:=by
  rw [h2] at e;have f1:((2:Nat):Int)-1=1:=rfl;have f2:(2:Nat)-1=0+1:=rfl;rw [f1,f2,e3,cS,List.take_zero] at e;simp only [vl] at e;rw [e];have f3:((0:Nat):Int)=0:=rfl;have f4:(4294967296:Int) ^ 0=1:=rfl;have f5:(4294967296:Int) ^ (0+1)=4294967296:=rfl;rw [f3,f4,f5];omega
 rw [Qc Q2,Qc Q2,Qk Q2,Qk Q2,Qk Q2,u64 (x:=rd r 1) Q2 Q2,u64 (x:=rd r 0) Q2 Q2,u64 (x:=rd r 1*4294967296) Q2 Q2,Gq hx h0,e4]
theorem IV {n m p q:Int}:m*q-n*(-p)=p*n+q*m:=by grind
theorem IU {n m p q:Int}:n*p-m*(-q)=p*n+q*m:=by grind
theorem yK {a b:List Int} {n m p q:Int} (la:a.length<1073741824) (lb:b.length<1073741824) (ha:Can WW a n) (hb:Can WW b m) (hs:(0<=p/\q<=0)∨(p<=0/\0<=q))
 (hp:-4611686018427387904<=p/\p<=4611686018427387904) (hq:-4611686018427387904<=q/\q<=4611686018427387904) (h:0<=p*n+q*m):∃ r,Ev (fun k=>cP.f k a b p q) r/\Can WW r (p*n+q*m):=by
 have e:WW ^ 2=18446744073709551616:=by decide
 have c:p<=0->0<=q->∃ r,Ev (fun k=>cP.j0 k a b p q true) r/\Can WW r (p*n+q*m):=by
  intro p0 q0;obtain ⟨t,t1,t2⟩:=gD (a:=q) q0 Q2;have t3:=t2.gy (k:=2) bC Q2;obtain ⟨x,x1,x2,x3⟩:=lR Q2 hb t2;obtain ⟨s,s1,s2⟩:=gD (a:=-p) Q2 Q2;have s3:=s2.gy (k:=2) bC Q2;obtain ⟨y,y1,y2,y3⟩:=lR Q2 ha s2;rw [<- IV] at h;obtain ⟨z,z1,z2,z3⟩:=sS Q2 x2 y2 Q2;rw [IV] at z2;refine ⟨z,?_,z2⟩;refine Ev.step (fun k=>by rw [cP.j0]) ?_;rw [cD (x:=-p) Q2 Q2,u64 (x:=-p) Q2 Q2,u64 (x:=q) Q2 Q2];exact bB rfl (Ev.bind t1 (Ev.bind x1 (Ev.bind s1 (Ev.bind y1 (Ev.bind z1 (aV _))))))
 have d:0<=p->q<=0->∃ r,Ev (fun k=>cP.j0 k a b p q false) r/\Can WW r (p*n+q*m):=by
  intro p0 q0;obtain ⟨t,t1,t2⟩:=gD (a:=p) p0 Q2;have t3:=t2.gy (k:=2) bC Q2;obtain ⟨x,x1,x2,x3⟩:=lR Q2 ha t2;obtain ⟨s,s1,s2⟩:=gD (a:=-q) Q2 Q2;have s3:=s2.gy (k:=2) bC Q2;obtain ⟨y,y1,y2,y3⟩:=lR Q2 hb s2;rw [<- IU] at h;obtain ⟨z,z1,z2,z3⟩:=sS Q2 x2 y2 Q2;rw [IU] at z2;refine ⟨z,?_,z2⟩;refine Ev.step (fun k=>by rw [cP.j0]) ?_;rw [cD (x:=-q) Q2 Q2,u64 (x:=-q) Q2 Q2,u64 (x:=p) Q2 Q2];exact eL Q3 (Ev.bind t1 (Ev.bind x1 (Ev.bind s1 (Ev.bind y1 (Ev.bind z1 (aV _))))))
 unfold cP.f
 by_cases c1:p<0
 ·obtain ⟨r,r1,r2⟩:=c Q2 Q2;exact ⟨r,bB c1 r1,r2⟩
 by_cases c2:q>0
 ·obtain ⟨r,r1,r2⟩:=c Q2 Q2;rw [Qb c2];exact ⟨r,eL c1 r1,r2⟩
 obtain ⟨r,r1,r2⟩:=d Q2 Q2;rw [Q8 c2];exact ⟨r,eL c1 r1,r2⟩
theorem MO {p q x y T a b d:Int}:p*(T*x+a)+q*(T*y+b)=T*(p*x+q*y+q)+p*a+(q*b-q*T):=by grind
theorem MN {p q x y T a b d:Int}:p*(T*x+a)+q*(T*y+b)=T*(p*x+q*y+p)+(p*a-p*T)+q*b:=by grind
theorem GR {p q x y T a b d:Int} (hT:0<T) (ha:0<=a/\a<T) (hb:0<=b/\b<T) (hs:(0<=p/\q<=0)∨(p<=0/\0<=q)) (e:d<=p*x+q*y+p) (c:d<=p*x+q*y+q):T*d<=p*(T*x+a)+q*(T*y+b):=by
 rcases hs with ⟨h3,h4⟩ | ⟨h3,h4⟩
 ·have k1:0<=p*a:=QX h3 ha.1;have k2:q*T<=q*b:=XI h4 Q2;have k3:T*d<=T*(p*x+q*y+q):=Ql c Q2;rw [MO (d:=d)];omega
 have k1:0<=q*b:=QX h4 hb.1;have k2:p*T<=p*a:=XI h3 Q2;have k3:T*d<=T*(p*x+q*y+p):=Ql e Q2;rw [MN (d:=d)];omega
theorem uX {k r:Int} (hk:0<=k/\k<=2147483648) (hr:-2147483648<=r/\r<=2147483648):-4611686018427387904<=k*r/\k*r<=4611686018427387904:=by
 have h1:k*r<=k*2147483648:=Ql hr.2 hk.1;have h2:k*(-2147483648)<=k*r:=Ql hr.1 hk.1;omega
theorem alg_l1 {p q r s x y k u v:Int} (hu:u=p*x+q*y) (hv:v=r*x+s*y):u-k*v=(p-k*r)*x+(q-k*s)*y:=by rw [hu,hv];grind
theorem MS {p q r s n m k:Int}:(p-k*r)*n+(q-k*s)*m=(p*n+q*m)-k*(r*n+s*m):=by grind
theorem alg_l3 {p q r s n m k:Int}:((k+1)*r-p)*n+((k+1)*s-q)*m=(k+1)*(r*n+s*m)-(p*n+q*m):=by grind
theorem MR {u p v r k:Int}:(u-k*v)+(p-k*r)=(u+p)-k*(v+r):=by grind
theorem MQ {x y p q r s u v k g h:Int} (hu:u=p*x+q*y) (hv:v=r*x+s*y):((k+1)*r-p)*x+((k+1)*s-q)*y+((k+1)*g-h)=(k+1)*(v+g)-(u+h):=by rw [hu,hv];grind
theorem yU {k A:Int}:(k+1)*A=k*A+A:=by grind
def Ch (n m:Int) (R:List Int×List Int×Bool):Prop:=R.2.2=true->∃ C D,Can WW R.1 C/\Can WW R.2.1 D/\gI C D=gI n m/\D<=C/\D<m/\C<=n
theorem JI {a b:List Int} {n m p q r s:Int} (la:a.length<1073741824) (lb:b.length<1073741824) (ha:Can WW a n) (hb:Can WW b m)
 (e:(0<=p/\q<=0)∨(p<=0/\0<=q)) (d:(0<=r/\s<=0)∨(r<=0/\0<=s))
 (bp:-2147483648<=p/\p<=2147483648) (bq:-2147483648<=q/\q<=2147483648) (br:-2147483648<=r/\r<=2147483648) (bs:-2147483648<=s/\s<=2147483648)
 (hA:0<=p*n+q*m) (hB:0<=r*n+s*m) (hg:gI (p*n+q*m) (r*n+s*m)=gI n m) (hn:p*n+q*m<=n) (hBA:r*n+s*m<=p*n+q*m) (hm:q≠0->r*n+s*m<m) :
 ∃ R,Ev (fun k=>bm.j2 k a b p q r s) R/\Ch n m R:=by
 by_cases c:q=0
 ·refine ⟨([],[],false),?_,fun h=>by simp at h⟩;refine Ev.step (fun k=>by rw [bm.j2]) ?_;exact bB c (aV _)
 obtain ⟨x,x1,x2⟩:=yK la lb ha hb e Q2 Q2 hA;obtain ⟨y,y1,y2⟩:=yK la lb ha hb d Q2 Q2 hB;refine ⟨(x,y,true),?_,fun _=>⟨_,_,x2,y2,hg,hBA,hm c,hn⟩⟩;refine Ev.step (fun k=>by rw [bm.j2]) ?_;exact eL c (Ev.bind x1 (Ev.bind y1 (aV _)))
theorem JH {a b:List Int} {n m x y T a' b':Int} (la:a.length<1073741824) (lb:b.length<1073741824) (ha:Can WW a n) (hb:Can WW b m) (hT:0<T) (hn:n=T*x+a') (hm:m=T*y+b') (ha':0<=a'/\a'<T) (hb':0<=b'/\b'<T) (c:Nat) :
 ∀ p q r s u v:Int,(v+r).toNat=c->u=p*x+q*y->v=r*x+s*y ->
 ((0<=p/\q<=0/\r<=0/\0<=s)∨(p<=0/\0<=q/\0<=r/\s<=0)) ->
 (0<=u+p/\u+p<=2147483648)->(0<=u+q/\u+q<=2147483648)->(0<=v+r/\v+r<=2147483648)->(0<=v+s/\v+s<=2147483648) ->
 gI (p*n+q*m) (r*n+s*m)=gI n m->r*n+s*m<=m->p*n+q*m<=n->r*n+s*m<=p*n+q*m->(q≠0->r*n+s*m<m)->m<=n ->
 ∃ R,Ev (fun k=>bm.l0 k a b p q r s u v) R/\Ch n m R:=by
 induction c using Nat.strongRecOn with
 | _ c ih =>
  intro p q r s u v hc hu hv hs bp bq br bs hg hBm hAn hBA hq hmn;have hA:0<=p*n+q*m:=by
   have:=GR (p:=p) (q:=q) (x:=x) (y:=y) (d:=0) hT ha' hb' Q2 (by rw [<- hu];omega) (by rw [<- hu];omega);rw [hn,hm];omega
  have hB:0<=r*n+s*m:=by
   have:=GR (p:=r) (q:=s) (x:=x) (y:=y) (d:=0) hT ha' hb' Q2 (by rw [<- hv];omega) (by rw [<- hv];omega);rw [hn,hm];omega
  obtain ⟨R0,e1,e2⟩:=JI (p:=p) (q:=q) (r:=r) (s:=s) la lb ha hb Q2 Q2 Q2 Q2 Q2 Q2 hA hB hg hAn hBA hq;have f:Ev (fun k=>bm.j1 k a b p q r s u v false) R0:=by
   refine Ev.step (fun k=>by rw [bm.j1]) ?_;exact eL Q3 e1
  by_cases c1:v+r=0
  ·refine ⟨R0,?_,e2⟩;refine Ev.step (fun k=>by rw [bm.l0]) ?_;rw [cD (x:=v+r) Q2 Q2];exact bB c1 f
  by_cases c2:v+s=0
  ·refine ⟨R0,?_,e2⟩;refine Ev.step (fun k=>by rw [bm.l0]) ?_;rw [cD (x:=v+r) Q2 Q2,cD (x:=v+s) Q2 Q2,show (v+s != 0)=false by simp [c2]];exact eL c1 f
  have step:∀ R,Ev (fun k=>bm.j1 k a b p q r s u v true) R->Ev (fun k=>bm.l0 k a b p q r s u v) R:=by
   intro R h;refine Ev.step (fun k=>by rw [bm.l0]) ?_;rw [cD (x:=v+r) Q2 Q2,cD (x:=v+s) Q2 Q2,show (v+s != 0)=true by simp [c2]];exact eL c1 h
  have k0:0<=(u+p) / (v+r):=VA Q2 Q2;have k1:(u+p) / (v+r)<=u+p:=WH _ Q2;have g0:0<=(u+q) / (v+s):=VA Q2 Q2;have g1:(u+q) / (v+s)<=u+q:=WH _ Q2;have d1:=Vt (u+p) (v+r);have d2:=V4 (u+p) (show v+r≠0 by omega);have d3:=QU (u+p) (show 0<v+r by omega);have f1:=Vt (u+q) (v+s);have f2:=V4 (u+q) (show v+s≠0 by omega);have f3:=QU (u+q) (show 0<v+s by omega);generalize hk:(u+p) / (v+r)=K at k0 k1 d1;generalize hk2:(u+q) / (v+s)=K2 at g0 g1 f1;generalize (u+p) % (v+r)=w1 at d1 d2 d3;generalize (u+q) % (v+s)=w2 at f1 f2 f3;have e:∀ R,(K=K2->Ev (fun k=>bm.l0 k a b r s (p-K*r) (q-K*s) v (u-K*v)) R)->(K≠K2->Ev (fun k=>bm.j2 k a b p q r s) R)->Ev (fun k=>bm.j1 k a b p q r s u v true) R:=by
   intro R h1 h2;refine Ev.step (fun k=>by rw [bm.j1]) ?_;have m1:=uX (k:=K) (r:=r) ⟨k0,Q2⟩ Q2;have m2:=uX (k:=K) (r:=s) ⟨k0,Q2⟩ Q2;have m3:=uX (k:=K) (r:=v) ⟨k0,Q2⟩ Q2;rw [cD (x:=v+r) Q2 Q2,cD (x:=v+s) Q2 Q2,cD (x:=u+p) Q2 Q2,cD (x:=u+q) Q2 Q2,fO (x:=u+p) Q2,fO (x:=u+q) Q2,hk,hk2,
    cD (x:=K) Q2 Q2,cD (x:=K2) Q2 Q2,cD (x:=K*r) Q2 Q2,cD (x:=K*s) Q2 Q2,cD (x:=K*v) Q2 Q2,cD (x:=p-K*r) Q2 Q2,cD (x:=q-K*s) Q2 Q2,cD (x:=u-K*v) Q2 Q2]
   refine bB rfl (eL c1 (eL c2 ?_))
   by_cases c3:K=K2
   ·exact bB c3 (h1 c3)
   exact eL c3 (h2 c3)
  by_cases c3:K=K2
  ·subst c3;have s1:(u-K*v)+(p-K*r)=w1:=by rw [MR,QH K];omega
   have s2:(u-K*v)+(q-K*s)=w2:=by rw [MR,QH K];omega
   have sg:(0<=r/\s<=0/\p-K*r<=0/\0<=q-K*s)∨(r<=0/\0<=s/\0<=p-K*r/\q-K*s<=0):=by
    rcases hs with ⟨t1,t2,t3,t4⟩ | ⟨t1,t2,t3,t4⟩
    ·have i1:=Xl k0 t3;have i2:=QX k0 t4;exact .inr ⟨t3,t4,Q2,Q2⟩
    have i1:=QX k0 t3;have i2:=Xl k0 t4;exact .inl ⟨t3,t4,Q2,Q2⟩
   have lt:(p-K*r)*n+(q-K*s)*m<r*n+s*m:=by
    have i:=GR (p:=(K+1)*r-p) (q:=(K+1)*s-q) (x:=x) (y:=y) (d:=1) hT ha' hb' (by
     rw [yU,yU];omega) (by
     rw [MQ hu hv,yU,QH K];omega) (by
     rw [MQ hu hv,yU,QH K];omega)
    rw [<- hn,<- hm,alg_l3,yU] at i;rw [MS];omega
   obtain ⟨R,r1,r2⟩:=ih (u-K*v+(p-K*r)).toNat (by rw [s1];omega) r s (p-K*r) (q-K*s) v (u-K*v) rfl hv (alg_l1 hu hv) sg Q2 Q2 Q2 Q2
    (by rw [MS,L4];exact hg) Q2 Q2 Q2 (fun _=>Q2) hmn
   exact ⟨R,step R (e R (fun _=>r1) (fun h=>absurd rfl h)),r2⟩
  exact ⟨R0,step R0 (e R0 (fun h=>absurd h c3) (fun _=>e1)),e2⟩
theorem JG {a b:List Int} {n m:Int} (la:a.length<1073741824) (lb:b.length<1073741824) (hb2:2<b.length) (ha:Can WW a n) (hb:Can WW b m) (hmn:m<=n):∃ R,Ev (fun k=>bm.f k a b) R/\Ch n m R:=by
 have d:=lZ ha hb hmn;have n0:=ha.fz aH;have m0:=hb.fz aH;have mz:=hb.jP aH;have m1:m≠0:=fun h=>by have:=mz.2 h;omega
 obtain ⟨A,A1,A2,A3,A4⟩:=vS Q2 ha;obtain ⟨B,B1,B2,B3,B4⟩:=vS Q2 hb;obtain ⟨A5,A6,A7,A8⟩:=A4 Q2;clear A3 A4 B3 B4;unfold bm.f;rw [A1,B1];simp only [Option.bind_some];rw [cD (x:=(A:Int)-20) Q2 Q2,cD (x:=(A:Int)-31) Q2 Q2,show (A:Int)-31=((A-31:Nat):Int) by omega]
 by_cases c:(B:Int)<(A:Int)-20
 ·exact ⟨([],[],false),bB c (aV _),fun h=>by simp at h⟩
 obtain ⟨x,x1,x2,x3⟩:=sT (A-31) Q2 Q2 ha;obtain ⟨y,y1,y2,y3⟩:=sT (A-31) Q2 Q2 hb;have hT:=two_pos (A-31);have e:(2:Int) ^ A=2 ^ (A-31)*2147483648:=by
  rw [show (2147483648:Int)=2 ^ 31 by decide,<- Va];congr 1;omega
 rw [e] at A6;clear e A5;generalize (2:Int) ^ (A-31)=T at hT A6 x2 y2;have q1:n / T<2147483648:=VZ hT (by rw [QH];exact A6);have q2:m / T<=n / T:=Int.ediv_le_ediv hT hmn;have q3:0<=m / T:=VA m0 Q2;have g:WW ^ 2=18446744073709551616:=by decide
 have sx:=kx x2 (x2.gy (k:=2) bC Q2);have sy:=kx y2 (y2.gy (k:=2) bC Q2);have i1:=V4 n (show T≠0 by omega);have i2:=QU n hT;have i3:=V4 m (show T≠0 by omega);have i4:=QU m hT;have j1:=Vt n T;have j2:=Vt m T;obtain ⟨R,r1,r2⟩:=JH la lb ha hb hT j1.symm j2.symm ⟨i1,i2⟩ ⟨i3,i4⟩ _ 1 0 0 1 (n / T) (m / T) rfl Q2 Q2 Q2 Q2 Q2 Q2 Q2
  (by rw [VP,VL,VL,VP,Ve,XS]) Q2 Q2 Q2 (fun h=>absurd rfl h) hmn
 refine ⟨R,eL c (Ev.bind x1 (kL sx (Ev.bind y1 (kL sy ?_)))),r2⟩;show Ev (fun k=>bm.l0 k a b 1 0 0 1 (wrap64 (n / T)) (wrap64 (m / T))) R;rw [cD (x:=n / T) Q2 Q2,cD (x:=m / T) Q2 Q2];exact r1
theorem GB (c:Nat):∀ x y:Int,y.toNat=c->0<=x->x<18446744073709551616->0<=y->y<18446744073709551616->∃ r,Ev (fun k=>cw.l1 k x y) r/\Can WW r (gI x y):=by
 induction c using Nat.strongRecOn with
 | _ c ih =>
  intro x y hc x0 x1 y0 y1
  by_cases c1:y=0
  ·subst c1;obtain ⟨r,r1,r2⟩:=gD x0 x1;rw [wP x0];refine ⟨r,?_,r2⟩;refine Ev.step (fun k=>by rw [cw.l1]) ?_;exact bB rfl (Ev.bind r1 (aV _))
  have m0:=V4 x (show y≠0 by omega);have m1:=QU x (show 0<y by omega);obtain ⟨r,r1,r2⟩:=ih (x % y).toNat Q2 y (x % y) rfl y0 y1 m0 Q2;rw [yz] at r2;refine ⟨r,?_,r2⟩;refine Ev.step (fun k=>by rw [cw.l1]) ?_;rw [fU x0];exact eL c1 r1
theorem yh (c:Nat):∀ (a b:List Int) (n m:Int),m.toNat=c->a.length<1073741824->Can WW a n->Can WW b m->m<=n->∃ r,Ev (fun k=>cw.l0 k a b) r/\Can WW r (gI n m):=by
 induction c using Nat.strongRecOn with
 | _ c ih =>
  intro a b n m hc la ha hb hmn;have g:=lZ ha hb hmn;have n0:=ha.fz aH;have m0:=hb.fz aH;have hz:=hb.jP aH;have e:WW ^ 2=18446744073709551616:=by decide
  by_cases c1:2<b.length
  ·have mp:0<m:=by
    rcases Wt 0 m with h | h
    ·exact h
    have:=hz.2 Q2;omega
   obtain ⟨R,r1,r2⟩:=JG la Q2 c1 ha hb hmn;obtain ⟨x,y,f⟩:=R;cases f with
   | true =>
    obtain ⟨C,D,s1,s2,s3,s4,s5,s6⟩:=r2 rfl;have D0:=s2.fz aH;have lc:=lZ ha s1 s6;obtain ⟨z,z1,z2⟩:=ih D.toNat Q2 x y C D rfl (by show x.length<_;have:x.length<=a.length:=lc;omega) s1 s2 s4;rw [s3] at z2;refine ⟨z,?_,z2⟩;refine Ev.step (fun k=>by rw [cw.l0]) ?_;exact bB Q2 (Ev.bind r1 (bB rfl z1))
   | false =>
    have q0:=V4 n (show m≠0 by omega);have q1:=QU n mp;obtain ⟨q,r,d1,d2,d3⟩:=mV Q2 ha hb mp;obtain ⟨z,z1,z2⟩:=ih (n % m).toNat Q2 b r m (n % m) rfl Q2 hb d3 Q2;rw [yz] at z2;refine ⟨z,?_,z2⟩;refine Ev.step (fun k=>by rw [cw.l0]) ?_;exact bB Q2 (Ev.bind r1 (eL Q3 (Ev.bind d1 z1)))
  by_cases c2:b.length=0
  ·rw [hz.1 c2,wP n0];refine ⟨a,?_,ha⟩;refine Ev.step (fun k=>by rw [cw.l0]) ?_;exact eL Q2 (bB Q2 (bB (by simp;omega) (aV _)))
  have mp:0<m:=by
   rcases Wt 0 m with h | h
   ·exact h
   have:=hz.2 Q2;omega
  have q0:=V4 n (show m≠0 by omega);have q1:=QU n mp;obtain ⟨q,r,d1,d2,d3⟩:=mV Q2 ha hb mp;have d:=hb.lt aH;have h4:=fy (B:=WW) (by decide) (show b.length<=2 by omega);have l3:=d3.gy (k:=2) bC Q2;have e1:=kx hb Q2;have e2:=kx d3 l3;obtain ⟨z,z1,z2⟩:=GB _ m (n % m) rfl m0 Q2 q0 Q2;rw [yz] at z2;refine ⟨z,?_,z2⟩;refine Ev.step (fun k=>by rw [cw.l0]) ?_;exact eL Q2 (eL Q2 (Ev.bind d1 (kL e1 (kL e2 z1))))
theorem GK {a b:List Int} {n m:Int} (la:a.length<1073741824) (lb:b.length<1073741824) (ha:Can WW a n) (hb:Can WW b m):∃ r,Ev (fun k=>cw.f k a b) r/\Can WW r (gI n m):=by
 have hc:=sU Q2 ha hb;unfold cw.f
 by_cases c:n<m
 ·obtain ⟨r,r1,r2⟩:=yh _ b a m n rfl lb hb ha Q2;rw [Od] at r2;refine ⟨r,Ev.bind hc (bB ?_ ?_),r2⟩
  ·unfold dK;rw [Qk c];omega
  exact Ev.step (fun k=>by rw [cw.j0]) r1
 obtain ⟨r,r1,r2⟩:=yh _ a b n m rfl la ha hb Q2;refine ⟨r,Ev.bind hc (eL ?_ ?_),r2⟩
 ·unfold dK;rw [Qc c];split<;>omega
 exact Ev.step (fun k=>by rw [cw.j0]) r1
def sv (s:ByteArray):Nat->Int
 | 0=>0
 | i+1=>sv s i*10+(bt s (i:Int)-48)
end Go.Proofs.YtfbgaddecbiimaaGreatDoor.P
end
section
namespace Go.Proofs.YtfbgaddecbiimaaGreatDoor.Q
open Go.RowKit Go.Proofs.YtfbgaddecbiimaaGreatDoorW.PrintWords Go.Proofs.YtfbgaddecbiimaaGreatDoorW.PrintMore Go.Proofs.YtfbgaddecbiimaaGreatDoor.V Go.Proofs.YtfbgaddecbiimaaGreatDoor.E
open Go.Proofs.YtfbgaddecbiimaaGreatDoor.P (Dg Nm vl WW RR bE gI aV jW kL dK aH bC)
theorem bT {α:Type} {c:Bool} {f g:Nat->Option α} {r:α} (hc:c=true) (h:Ev f r):Ev (fun k=>bif c then f k else g k) r:=by subst hc;exact h
theorem bF {α:Type} {c:Bool} {f g:Nat->Option α} {r:α} (hc:c=false) (h:Ev g r):Ev (fun k=>bif c then f k else g k) r:=by subst hc;exact h
theorem iT {α:Type} {c:Prop} [Decidable c] {f:Nat->Option α} {r:α} (hc:c) (h:Ev f r):Ev (fun k=>if c then f k else none) r:=by simpa only [Qk hc] using h
theorem evmap {α β:Type} {f:Nat->Option α} {g:α->β} {r:α} (h:Ev f r):Ev (fun k=>(f k).map g) (g r):=by
 obtain ⟨K,h⟩:=h;exact ⟨K,fun k hk=>by simp only [h k hk,Option.map_some]⟩
def sg (s:Bool) (x:Int):Int:=if s then -x else x
def RB (B:Int) (v:bA) (q:Rat):Prop:=v.1=decide (q.num<0)/\P.Can B v.2.1 (q.num.natAbs:Int)/\P.Can B v.2.2.1 (q.den:Int)
theorem J9 {B:Int} (h:1<B):P.Can B [1] 1:=⟨Dg.mk (by decide) h (Dg.nil _),fun h=>Q3,by simp [vl]⟩
theorem HM {B:Int} (h:1<B):RB B (false,[],[1],()) 0:=⟨rfl,P.Can.zero B,J9 h⟩
theorem NF {B:Int} (hB:0<B) {v w:bA} {q:Rat} (hv:RB B v q) (hw:RB B w q):v=w:=by
 obtain ⟨a,b,c,d⟩:=v;obtain ⟨a',b',c',d'⟩:=w;obtain ⟨h1,h2,h3⟩:=hv;obtain ⟨g1,g2,g3⟩:=hw;have e1:a=a':=h1.trans g1.symm;have e2:b=b':=bE hB h2 g2;have e3:c=c':=bE hB h3 g3;subst e1 e2 e3;rfl
theorem Io (x y:Int):((y.gcd x:Nat):Int)=gI x y:=by unfold gI;rw [YE]
theorem tG {B:Int} {s:Bool} {l d:List Int} {x y:Int} (hx:0<x) (hy:0<y) (hl:P.Can B l (x / gI x y)) (hd:P.Can B d (y / gI x y)):RB B (s,l,d,()) (Rat.divInt (sg s x) y):=by
 have hg:0<gI x y:=by
  unfold gI;have:=Int.gcd_pos_of_ne_zero_left y (show x≠0 by omega);omega
 have c:gI x y ∣ x:=Int.gcd_dvd_left ..;have f:gI x y ∣ y:=WQ ..;have hq:0<x / gI x y:=XZ hx Q2 c;have hr:0<y / gI x y:=XZ hy Q2 f;have b:((y.gcd (sg s x):Nat):Int)=gI x y:=by
  unfold sg;cases s with
  | true=>simp only [Xh,Int.gcd_neg];exact Io x y
  | false=>exact Io x y
 have a:(Rat.divInt (sg s x) y).num=sg s (x / gI x y):=by
  rw [Xw,b,Wg hy,VP];unfold sg;cases s with
  | true=>simp only [Xh];exact Int.neg_ediv_of_dvd c
  | false=>rfl
 have e:((Rat.divInt (sg s x) y).den:Int)=y / gI x y:=by
  rw [Xx,Qc Q2,Int.natCast_ediv,b];congr 1;omega
 refine ⟨?_,?_,?_⟩
 ·show s=_;rw [a];unfold sg;cases s with
  | true=>simp only [Xh];exact (Qb Q2).symm
  | false=>exact (Q8 (by simp;omega)).symm
 ·show P.Can B l _;rw [a];have:((sg s (x / gI x y)).natAbs:Int)=x / gI x y:=by
   unfold sg;cases s with
   | true=>simp only [Xh];omega
   | false=>simp;omega
  rw [this];exact hl
 show P.Can B d _;rw [e];exact hd
theorem Ai (s:Bool) (y:Int):Rat.divInt (sg s 0) y=0:=by unfold sg;cases s<;>simp
theorem La {B:Int} {v:bA} {q:Rat} (h:RB B v q):Rat.divInt (sg v.1 q.num.natAbs) q.den=q:=by
 have:sg v.1 q.num.natAbs=q.num:=by
  unfold sg;rw [h.1]
  by_cases c:q.num<0
  ·rw [Qk (Qb c)];omega
  rw [Qc (by simpa using c)];omega
 rw [this,VQ]
theorem mM {B:Int} {v:bA} {q:Rat} (h:RB B v q):sg v.1 q.num.natAbs=q.num:=by
 unfold sg;rw [h.1]
 by_cases c:q.num<0
 ·rw [Qk (Qb c)];omega
 rw [Qc (by simpa using c)];omega
theorem fb (q:Rat):(0:Int)<q.den:=by have:=q.den_pos;omega
def Sz (B:Int) (K:Nat) (q:Rat):Prop:=(q.num.natAbs:Int)<B ^ K/\(q.den:Int)<B ^ K
theorem CG {B:Int} (hB:0<B) {v:bA} {q:Rat} (h:RB B v q) {K:Nat} (b:v.2.1.length<=K) (a:v.2.2.1.length<=K):Sz B K q :=
 ⟨W8 (h.2.1.lt hB) (P.fy Q2 b),W8 (h.2.2.lt hB) (P.fy Q2 a)⟩
theorem iu {B:Int} (hB:1<B) {v:bA} {q:Rat} (h:RB B v q) {K:Nat} (hs:Sz B K q):v.2.1.length<=K/\v.2.2.1.length<=K:=⟨h.2.1.gy hB hs.1,h.2.2.gy hB hs.2⟩
theorem oq {B:Int} (hB:0<B) {q:Rat} {K L:Nat} (hs:Sz B K q) (h:K<=L):Sz B L q:=⟨W8 hs.1 (P.fy Q2 h),W8 hs.2 (P.fy Q2 h)⟩
theorem Hu {B:Int} {s:Bool} {x y:Int} {K:Nat} (hx:0<=x) (hy:0<y) (c:x<B ^ K) (b:y<B ^ K):Sz B K (Rat.divInt (sg s x) y):=by
 have a:(sg s x).natAbs=x.natAbs:=by unfold sg;cases s<;>simp
 constructor
 ·rw [Xw,Wg hy,VP];have:((sg s x) / ((y.gcd (sg s x):Nat):Int)).natAbs<=(sg s x).natAbs:=by
   rw [X4 (WQ ..)];exact Wy ..
  omega
 rw [Xx,Qc Q2];have:y.natAbs / (y.gcd (sg s x))<=y.natAbs:=Wy ..;omega
open Go.Proofs.YtfbgaddecbiimaaGreatDoor.P (cD u64)
section
variable {a b:List Int} {n m:Int}
theorem Ds (hn:a.length+b.length<1099511627776) (ha:P.Can WW a n) (hb:P.Can WW b m):∃ r,Ev (fun k=>bK k a b) r/\P.Can WW r (n*m)/\r.length<=a.length+b.length:=by
 obtain ⟨r,h1,h2⟩:=P.lR hn ha hb;exact ⟨r,Ev.step (fun k=>GJ k a b) h1,h2⟩
theorem q_Add (hla:a.length<1099511627776) (hlb:b.length<1099511627776) (ha:P.Can WW a n) (hb:P.Can WW b m):∃ r,Ev (fun k=>dM k a b) r/\P.Can WW r (n+m)/\r.length<=max a.length b.length+1:=by
 obtain ⟨r,h1,h2⟩:=P.GO hla hlb ha hb;exact ⟨r,Ev.step (fun k=>GQ k a b) h1,h2⟩
theorem q_Sub (hn:a.length<1099511627776) (ha:P.Can WW a n) (hb:P.Can WW b m) (hle:m<=n):∃ r,Ev (fun k=>dT k a b) r/\P.Can WW r (n-m)/\r.length<=a.length:=by
 obtain ⟨r,h1,h2⟩:=P.sS hn ha hb hle;exact ⟨r,Ev.step (fun k=>GD k a b) h1,h2⟩
theorem q_Cmp (hn:a.length<4611686018427387904) (ha:P.Can WW a n) (hb:P.Can WW b m):Ev (fun k=>dX k a b) (dK n m):=Ev.step (fun k=>GN k a b) (P.sU hn ha hb)
theorem q_GCD (la:a.length<1073741824) (lb:b.length<1073741824) (ha:P.Can WW a n) (hb:P.Can WW b m):∃ r,Ev (fun k=>cw k a b) r/\P.Can WW r (gI n m):=by
 obtain ⟨r,h1,h2⟩:=P.GK la lb ha hb;exact ⟨r,Ev.step (fun k=>GL k a b) h1,h2⟩
theorem Dt (hn:a.length<17179869184) (ha:P.Can WW a n) (hb:P.Can WW b m) (hm:0<m):∃ q r,Ev (fun k=>aJ k a b) (q,r,())/\P.Can WW q (n / m)/\P.Can WW r (n % m):=by
 obtain ⟨q,r,h1,h2⟩:=P.mV hn ha hb hm;exact ⟨q,r,Ev.step (fun k=>zh k a b) (evmap (g:=fun r:List Int×List Int=>(r.1,r.2,())) h1),h2⟩
theorem Il {x y:Int} (hy:0<y):0<gI x y:=by
 unfold P.gI;have:=Int.gcd_pos_of_ne_zero_right x (show y≠0 by omega);omega
theorem NR {l:List Int} {z:Int} (h:P.Can WW l z) (hz:0<z) (a:z≠1):(bif (List.length l:Int) != (1:Int) then some true else if 0<=(0:Int)/\(0:Int)<(List.length l:Int) then some ((cH (t:=(.int .u32)) l (0:Int):Int) != (1:Int)) else none)=some true:=by
 match l,h with
 | [],h=>rfl
 | [x],h =>
  have hx:x=z:=by have:=h.2.2;simp [vl] at this;exact this
  have hr:(cH (t:=(.int .u32)) [x] (0:Int):Int)=x:=rfl;rw [hr];have:(x != (1:Int))=true:=by simp;omega
  rw [this];simp
 | x :: y :: t,h =>
  have:((List.length (x :: y :: t):Int) != (1:Int))=true:=by simp;omega
  rw [this];rfl
theorem LA {l:List Int} {z:Int} (h:P.Can WW l z) (hz:z=1):(bif (List.length l:Int) != (1:Int) then some true else if 0<=(0:Int)/\(0:Int)<(List.length l:Int) then some ((cH (t:=(.int .u32)) l (0:Int):Int) != (1:Int)) else none)=some false:=by
 subst hz;rw [bE aH h (J9 bC)];rfl
theorem DP:Ev (fun k=>qy k) (false,[],[1],()):=Ev.step (fun k=>DQ k) (aV _)
theorem oK {B:Int} (hB:0<B) {l:List Int} {x:Int} (h:P.Can B l x) (hx:x≠0):((List.length l:Int)==(0:Int))=false:=by
 have:=h.jP hB;have:l.length≠0:=fun e=>hx (this.1 e);simp;intro e;exact this (by simp [e])
theorem GV {B:Int} (hB:0<B) {l:List Int} {x:Int} (h:P.Can B l x) (hx:x=0):l=[]:=(h.Bw hB).2 hx
theorem jA {s:Bool} (la:a.length<1073741824) (lb:b.length<1073741824) (ha:P.Can WW a n) (hb:P.Can WW b m) (hm:0<m):∃ r,Ev (fun k=>eE k s a b) r/\RB WW r (Rat.divInt (sg s n) m):=by
 have n0:=ha.fz aH
 by_cases hn:n=0
 ·obtain rfl:=GV aH ha hn;refine ⟨_,Ev.step (fun k=>qA k s [] b) (bT rfl (Ev.bind DP (aV _))),?_⟩;rw [hn,Ai];exact HM bC
 obtain ⟨g,g1,g2⟩:=q_GCD la lb ha hb;have gp:=Il (x:=n) hm;have c:∀ {u v:List Int},u.length<=a.length->v.length<=b.length->P.Can WW u (n / gI n m)->P.Can WW v (m / gI n m)->Ev (fun k=>eE.j0 k s u v (false,[],[],())) (s,u,v,()):=fun h1 h2 _ _=>by
  unfold eE.j0;exact iT Q2 (iT Q2 (aV _))
 by_cases h1:gI n m=1
 ·have e1:n / gI n m=n:=by rw [h1];omega
  have e2:m / gI n m=m:=by rw [h1];omega
  have ca:P.Can WW a (n / gI n m):=by rw [e1];exact ha
  have cb:P.Can WW b (m / gI n m):=by rw [e2];exact hb
  exact ⟨_,Ev.step (fun k=>qA k s a b) (bF (oK aH ha hn) (Ev.bind g1 (Ev.bind (jW (LA g2 h1)) (bF rfl (c (Qn _) (Qn _) ca cb))))),tG Q2 hm ca cb⟩
 obtain ⟨u,u',u1,u2,u3⟩:=Dt Q2 ha g2 gp;obtain ⟨v,v',v1,v2,v3⟩:=Dt Q2 hb g2 gp;have lu:u.length<=a.length:=u2.gy bC (Wq (WH _ n0) (ha.lt aH));have lv:v.length<=b.length:=v2.gy bC (Wq (WH _ Q2) (hb.lt aH));exact ⟨_,Ev.step (fun k=>qA k s a b) (bF (oK aH ha hn) (Ev.bind g1 (Ev.bind (jW (NR g2 gp h1)) (bT rfl (Ev.bind u1 (Ev.bind v1 (c lu lv u2 v2))))))),tG Q2 hm u2 v2⟩
end
section
variable {v w:bA} {p q:Rat} {K L:Nat}
theorem KT (s t:Bool) (x y:Int):sg (s != t) (x*y)=sg s x*sg t y:=by
 unfold sg;cases s<;>cases t<;>simp [Int.neg_mul,Int.mul_neg]
theorem oy (s:Bool) (x y:Int):sg s x*y=sg s (x*y):=by
 unfold sg;cases s<;>simp [Int.neg_mul]
theorem gR {x y:Int} (hx:0<x) (hy:0<y):0<x*y:=WX hx hy
theorem oJ (hv:RB WW v p) (hw:RB WW w q) (hp:Sz WW K p) (hq:Sz WW L q) (h:K+L<1073741824):∃ r,Ev (fun k=>lB k v w) r/\RB WW r (p*q)/\Sz WW (K+L) (p*q):=by
 obtain ⟨b,c⟩:=iu bC hv hp;obtain ⟨d,a⟩:=iu bC hw hq;obtain ⟨x,x1,x2,x3⟩:=Ds Q2 hv.2.1 hw.2.1;obtain ⟨y,y1,y2,y3⟩:=Ds Q2 hv.2.2 hw.2.2;have hd:(0:Int)<(p.den:Int)*q.den:=gR (fb p) (fb q);obtain ⟨r,r1,r2⟩:=jA (s:=v.1 != w.1) Q2 Q2 x2 y2 hd;have e:Rat.divInt (sg (v.1 != w.1) ((p.num.natAbs:Int)*q.num.natAbs)) ((p.den:Int)*q.den)=p*q:=by
  rw [KT,mM hv,mM hw,<- Rat.divInt_mul_divInt,VQ,VQ]
 have hs:Sz WW (K+L) (p*q):=by
  rw [<- e];refine Hu (QX Q2 Q2) hd ?_ ?_
  ·exact W8 (x2.lt aH) (P.fy (by decide) Q2)
  exact W8 (y2.lt aH) (P.fy (by decide) Q2)
 rw [e] at r2;exact ⟨r,Ev.step (fun k=>Gs k v w) (Ev.bind x1 (Ev.bind y1 (Ev.bind r1 (aV _)))),r2,hs⟩
theorem B9 {s t:Bool} (h:¬ s=t):(s==t)=false:=by cases s<;>cases t<;>simp_all
theorem zZ {x y d:List Int} {X Y D:Int} {s t:Bool} {u u' c:bA} (hu:u.1=s) (hu':u'.1=t) (lx:x.length<536870912) (ly:y.length<536870912) (ld:d.length<1073741824) (hx:P.Can WW x X) (hy:P.Can WW y Y) (hd:P.Can WW d D) (hD:0<D) :
 ∃ r,Ev (fun k=>hY.j0 k x y d u u' c) r/\RB WW r (Rat.divInt (sg s X+sg t Y) D):=by
 by_cases hst:s=t
 ·obtain ⟨z,z1,z2,z3⟩:=q_Add Q2 Q2 hx hy;obtain ⟨r,r1,r2⟩:=jA (s:=s) Q2 ld z2 hd hD;refine ⟨r,?_,?_⟩
  ·unfold hY.j0;rw [hu,hu'];exact bT (by subst hst;simp) (Ev.bind z1 (Ev.bind r1 (aV _)))
  have:sg s X+sg t Y=sg s (X+Y):=by subst hst;unfold sg;cases s<;>simp<;>omega
  rw [this];exact r2
 have hc:=q_Cmp Q2 hx hy
 by_cases hxy:Y<=X
 ·obtain ⟨z,z1,z2,z3⟩:=q_Sub Q2 hx hy hxy;obtain ⟨r,r1,r2⟩:=jA (s:=s) Q2 ld z2 hd hD;refine ⟨r,?_,?_⟩
  ·unfold hY.j0;rw [hu,hu'];refine bF (B9 hst) (Ev.bind hc (bT (Qb ?_) (Ev.bind z1 (Ev.bind r1 (aV _)))));unfold P.dK;split
   ·omega
   split<;>omega
  have:sg s X+sg t Y=sg s (X-Y):=by
   unfold sg;cases s<;>cases t<;>simp at hst ⊢<;>omega
  rw [this];exact r2
 obtain ⟨z,z1,z2,z3⟩:=q_Sub Q2 hy hx Q2;obtain ⟨r,r1,r2⟩:=jA (s:=t) Q2 ld z2 hd hD;refine ⟨r,?_,?_⟩
 ·unfold hY.j0;rw [hu,hu'];refine bF (B9 hst) (Ev.bind hc (bF (Q8 ?_) (Ev.bind z1 (Ev.bind r1 (aV _)))));unfold P.dK;rw [Qk Q2];omega
 have:sg s X+sg t Y=sg t (Y-X):=by
  unfold sg;cases s<;>cases t<;>simp at hst ⊢<;>omega
 rw [this];exact r2
theorem qZ (p q:Rat):p+q=Rat.divInt (p.num*q.den+q.num*p.den) ((p.den:Int)*q.den):=by
 have h:=Rat.divInt_add_divInt p.num q.num (d₁:=(p.den:Int)) (d₂:=(q.den:Int)) (by have:=fb p;omega) (by have:=fb q;omega);rw [VQ,VQ] at h;exact h
theorem Kh (p q:Rat) (h:p.den=q.den):p+q=Rat.divInt (p.num+q.num) (p.den:Int):=by
 rw [qZ,<- h,<- WN];exact Rat.divInt_mul_right (by have:=fb p;omega)
theorem sz_add (hp:Sz WW K p) (hq:Sz WW L q):Sz WW (K+L+1) (p+q):=by
 have hK:(0:Int)<WW ^ K:=Vu (by decide);have hL:(0:Int)<WW ^ L:=Vu (by decide);have e:(WW:Int) ^ (K+L+1)=WW ^ K*WW ^ L*4294967296:=by rw [QM,Va]
 obtain ⟨p1,p2⟩:=hp;obtain ⟨q1,q2⟩:=hq;have dp:=fb p;have dq:=fb q;have a1:(p.num.natAbs:Int)*q.den<=WW ^ K*WW ^ L:=VI Q2 Q2 Q2 Q2;have a2:(q.num.natAbs:Int)*p.den<=WW ^ L*WW ^ K:=VI Q2 Q2 Q2 Q2;have a3:(p.den:Int)*q.den<=WW ^ K*WW ^ L:=VI Q2 Q2 Q2 Q2;rw [QH (WW ^ L)] at a2;have a:(0:Int)<WW ^ K*WW ^ L:=gR hK hL;have hn:((p.num*q.den+q.num*p.den).natAbs:Int)<=(p.num.natAbs:Int)*q.den+(q.num.natAbs:Int)*p.den:=by
  have h1:=Int.natAbs_add_le (p.num*q.den) (q.num*p.den);rw [Vw,Vw] at h1;simp only [Int.natAbs_natCast] at h1;have:((p.num.natAbs*q.den+q.num.natAbs*p.den:Nat):Int)=(p.num.natAbs:Int)*q.den+(q.num.natAbs:Int)*p.den:=by
   rw [Int.natCast_add,Int.natCast_mul,Int.natCast_mul]
  omega
 rw [qZ];constructor
 ·rw [Xw,Wg (gR dp dq),VP];have:((p.num*q.den+q.num*p.den) / ((((p.den:Int)*q.den).gcd (p.num*q.den+q.num*p.den):Nat):Int)).natAbs<=(p.num*q.den+q.num*p.den).natAbs:=by
   rw [X4 (WQ ..)];exact Wy ..
  omega
 rw [Xx,Qc (by have:=gR dp dq;omega)];have:((p.den:Int)*q.den).natAbs / (((p.den:Int)*q.den).gcd (p.num*q.den+q.num*p.den))<=((p.den:Int)*q.den).natAbs:=Wy ..;have:=gR dp dq;omega
theorem xY (hv:RB WW v p) (hw:RB WW w q) (hp:Sz WW K p) (hq:Sz WW L q) (h:K+L<268435456):∃ r,Ev (fun k=>hY k v w) r/\RB WW r (p+q)/\Sz WW (K+L+1) (p+q):=by
 obtain ⟨b,f⟩:=iu bC hv hp;obtain ⟨e,a⟩:=iu bC hw hq;have hc:=q_Cmp Q2 hv.2.2 hw.2.2;refine (show ∃ r,Ev (fun k=>hY k v w) r/\RB WW r (p+q) from ?_).elim fun r hr=>⟨r,hr.1,hr.2,sz_add hp hq⟩
 by_cases hd:(p.den:Int)=q.den
 ·obtain ⟨r,r1,r2⟩:=zZ (c:=(false,[],[],())) (u:=v) (u':=w) rfl rfl Q2 Q2 Q2 hv.2.1 hw.2.1 hv.2.2 (fb p);rw [mM hv,mM hw,<- Kh p q Q2] at r2;refine ⟨r,Ev.step (fun k=>xZ k v w) (Ev.bind hc (bF ?_ r1)),r2⟩;unfold P.dK;rw [Qc Q2,Qk hd];rfl
 obtain ⟨x,x1,x2,x3⟩:=Ds Q2 hv.2.1 hw.2.2;obtain ⟨y,y1,y2,y3⟩:=Ds Q2 hw.2.1 hv.2.2;obtain ⟨d,d1,d2,d3⟩:=Ds Q2 hv.2.2 hw.2.2;obtain ⟨r,r1,r2⟩:=zZ (c:=(false,[],[],())) (u:=v) (u':=w) rfl rfl Q2 Q2 Q2 x2 y2 d2 (gR (fb p) (fb q));rw [<- oy,<- oy,mM hv,mM hw,<- qZ p q] at r2;refine ⟨r,Ev.step (fun k=>xZ k v w) (Ev.bind hc (bT ?_ (Ev.bind x1 (Ev.bind y1 (Ev.bind d1 r1))))),r2⟩;unfold P.dK;split
 ·rfl
 rfl
end
section
variable {v w:bA} {p q:Rat} {K L:Nat}
theorem DT (hv:RB WW v p) (hp:Sz WW K p) (h:K<1073741824):Ev (fun k=>xX k v) v:=by
 obtain ⟨c,d⟩:=iu bC hv hp;obtain ⟨s,a,b,_⟩:=v;exact Ev.step (fun k=>DU k _) (iT (by simp at c ⊢;omega) (iT (by simp at d ⊢;omega) (aV _)))
theorem Fs {B:Int} (hp:Sz B K p) (a:p≠0):Sz B K p⁻¹:=by
 have hn:p.num≠0:=fun e=>a (XL.1 e);obtain ⟨h1,h2⟩:=hp;refine ⟨?_,?_⟩
 ·rw [Rat.num_inv,Vw,Y0 hn];omega
 rw [Rat.den_inv,Qc hn];exact h1
theorem Lb {B:Int} (hv:RB B v p) (a:p≠0):RB B (v.1,v.2.2.1,v.2.1,()) p⁻¹:=by
 have hn:p.num≠0:=fun e=>a (XL.1 e);obtain ⟨h1,h2,h3⟩:=hv;have dp:=fb p;refine ⟨?_,?_,?_⟩
 ·show v.1=_;rw [h1,Rat.num_inv]
  by_cases c:p.num<0
  ·rw [Int.sign_eq_neg_one_of_neg c,Qb c,Qb Q2]
  rw [Wg Q2,Q8 c,Q8 Q2]
 ·rw [Rat.num_inv,Vw,Y0 hn];simpa using h3
 rw [Rat.den_inv,Qc hn];exact h2
theorem Gt (hv:RB WW v p) (hp:Sz WW K p) (c:p≠0) (h:K<1073741824):∃ r,Ev (fun k=>tX k v) r/\RB WW r p⁻¹/\Sz WW K p⁻¹:=by
 obtain ⟨a,b⟩:=iu bC hv hp;exact ⟨_,Ev.step (fun k=>Gu k v) (iT Q2 (iT Q2 (aV _))),Lb hv c,Fs hp c⟩
theorem Gw (hv:RB WW v p) (hw:RB WW w q) (hp:Sz WW K p) (hq:Sz WW L q) (a:q≠0) (h:K+L<1073741824):∃ r,Ev (fun k=>tY k v w) r/\RB WW r (p / q)/\Sz WW (K+L) (p / q):=by
 obtain ⟨x,x1,x2,x3⟩:=Gt hw hq a Q2;obtain ⟨r,r1,r2,r3⟩:=oJ hv x2 hp x3 h;rw [<- Rat.div_def] at r2 r3;exact ⟨r,Ev.step (fun k=>Gx k v w) (Ev.bind x1 (Ev.bind r1 (aV _))),r2,r3⟩
def FL (q:Rat):Int:=if q<0 then -1 else if q=0 then 0 else 1
theorem mB {q:Rat}:q.num<0↔q<0:=by
 rw [Rat.lt_iff];simp
theorem Ig {B:Int} (hB:0<B) (hv:RB B v p):((List.length v.2.1:Int)==(0:Int))=decide (p=0):=by
 by_cases c:p=0
 ·rw [GV hB hv.2.1 (by rw [c];rfl),Qb c];rfl
 rw [Q8 c];exact oK hB hv.2.1 (fun e=>c (XL.1 Q2))
theorem qz (hv:RB WW v p):Ev (fun k=>jc k v) (FL p):=by
 refine Ev.step (fun k=>mC k v) ?_;rw [Ig aH hv,hv.1];unfold FL
 by_cases c:p=0
 ·refine bT (Qb c) ?_;rw [Qc (by rw [c];exact Rat.lt_irrefl),Qk c];exact aV _
 refine bF (Q8 c) ?_
 by_cases d:p<0
 ·rw [Qk d];exact bT (Qb (mB.2 d)) (aV _)
 rw [Qc d,Qc c];exact bF (Q8 (fun e=>d (mB.1 e))) (aV _)
theorem KS (p:Rat):(FL p = -1/\p<0)∨(FL p=0/\p=0)∨(FL p=1/\0<p):=by
 unfold FL
 by_cases c:p<0
 ·exact .inl ⟨Qk c,c⟩
 by_cases d:p=0
 ·exact .inr (.inl ⟨by rw [Qc c,Qk d],d⟩)
 exact .inr (.inr ⟨by rw [Qc c,Qc d],Rat.lt_of_le_of_ne (Rat.not_lt.1 c) (Yn d)⟩)
end
section
variable {v w:bA} {p q:Rat} {K L:Nat}
theorem yI (x:Int):Rat.divInt x 1=(x:Rat):=by rw [Rat.divInt_eq_div];simp;grind
end
open Go.Proofs.YtfbgaddecbiimaaGreatDoor.P (aW)
def aL {α:Type} (g:Nat->Nat->Option α) (r:α):Prop:=∃ K,∀ k m,K<=k->K<=m->g k m=some r
section
variable {α β:Type} {g f:Nat->Nat->Option α} {r:α}
theorem aL.diag (h:aL g r):Ev (fun k=>g k k) r:=by
 obtain ⟨K,h⟩:=h;exact ⟨K,fun k hk=>h k k hk hk⟩
theorem aL.step (h:∀ k m,g k (m+1)=f k m) (k:aL f r):aL g r:=by
 obtain ⟨K,k⟩:=k;refine ⟨K+1,fun n m hn hm=>?_⟩;obtain ⟨q,rfl⟩:∃ q,m=q+1:=⟨m-1,Q2⟩;rw [h];exact k n q Q2 Q2
theorem aL.bind {g:Nat->Option β} {f:Nat->Nat->β->Option α} {a:β} (h:Ev g a) (k:aL (fun n m=>f n m a) r):aL (fun n m=>(g n).bind (f n m)) r:=by
 obtain ⟨K,h⟩:=h;obtain ⟨K',k⟩:=k;refine ⟨max K K',fun n m hn hm=>?_⟩;have h1:=h n Q2;simp only [h1,Option.bind_some];exact k n m Q2 Q2
theorem aL.bT {c:Bool} (hc:c=true) (h:aL f r):aL (fun k m=>bif c then f k m else g k m) r:=by subst hc;exact h
theorem aL.bF {c:Bool} (hc:c=false) (h:aL g r):aL (fun k m=>bif c then f k m else g k m) r:=by subst hc;exact h
theorem aL.iT {c:Prop} [Decidable c] (hc:c) (h:aL f r):aL (fun k m=>if c then f k m else none) r:=by simpa only [Qk hc] using h
theorem aL.of {g:Nat->Option α} (h:Ev g r):aL (fun k _=>g k) r:=by
 obtain ⟨K,h⟩:=h;exact ⟨K,fun k m hk _=>h k hk⟩
end
theorem cJ:(1:Int)<RR:=by decide
section
variable {a b:List Int} {n m:Int}
theorem C8 (hn:a.length+b.length<68719476736) (ha:P.Can RR a n) (hb:P.Can RR b m):∃ r,Ev (fun k=>ax k a b) r/\P.Can RR r (n*m)/\r.length<=a.length+b.length:=by
 obtain ⟨r,h1,h2⟩:=P.Lf hn ha hb;exact ⟨r,Ev.step (fun k=>pH k a b) h1,h2⟩
theorem s_Add (hn:a.length+b.length<68719476736) (ha:P.Can RR a n) (hb:P.Can RR b m):∃ r,Ev (fun k=>aB k a b) r/\P.Can RR r (n+m)/\r.length<=max a.length b.length+1:=by
 obtain ⟨r,h1,h2⟩:=P.Li hn ha hb;exact ⟨r,Ev.step (fun k=>pM k a b) h1,h2⟩
theorem s_Sub (hn:a.length<68719476736) (ha:P.Can RR a n) (hb:P.Can RR b m) (hle:m<=n):∃ r,Ev (fun k=>aQ k a b) r/\P.Can RR r (n-m)/\r.length<=a.length:=by
 obtain ⟨r,h1,h2⟩:=P.Dn hn ha hb hle;exact ⟨r,Ev.step (fun k=>pG k a b) h1,h2⟩
theorem s_Cmp (hn:a.length<4611686018427387904) (ha:P.Can RR a n) (hb:P.Can RR b m):Ev (fun k=>aM k a b) (dK n m):=Ev.step (fun k=>pL k a b) (P.eD hn ha hb)
theorem s_GCD (la:a.length<1073741824) (lb:b.length<1073741824) (ha:P.Can RR a n) (hb:P.Can RR b m):∃ r,Ev (fun k=>aA k a b) r/\P.Can RR r (gI n m):=by
 obtain ⟨r,h1,h2⟩:=P.Lh la lb ha hb;exact ⟨r,Ev.step (fun k=>pJ k a b) h1,h2⟩
theorem C9 (hn:a.length<1073741824) (hb:b.length<1073741824) (ha:P.Can RR a n) (cb:P.Can RR b m) (hm:0<m):∃ q r,Ev (fun k=>aG k a b) (q,r,())/\P.Can RR q (n / m)/\P.Can RR r (n % m):=by
 obtain ⟨q,r,h1,h2,h3,_⟩:=P.vG hn hb ha cb hm;exact ⟨q,r,Ev.step (fun k=>mY k a b) (evmap (g:=fun r:List Int×List Int=>(r.1,r.2,())) h1),h2,h3⟩
theorem HA (hn:a.length<1073741824) (ha:P.Can RR a n):∃ r,Ev (fun k=>aF k a) r/\P.Can WW r n:=by
 obtain ⟨r,h1,h2⟩:=P.F3 hn ha;exact ⟨r,Ev.step (fun k=>nR k a) h1,h2⟩
theorem HE {k0 c0:Int} (hn:a.length<549755813888) (ha:P.Can RR a n) (hk:0<=k0/\k0<=65536) (hc:0<=c0/\c0<=65536):∃ r,Ev (fun k=>aw k a k0 c0) r/\P.Can RR r (n*k0+c0)/\r.length<=a.length+2:=by
 obtain ⟨r,h1,h2⟩:=P.j7 hn ha hk hc;exact ⟨r,Ev.step (fun k=>nT k a k0 c0) h1,h2⟩
theorem s_Int {a:Int} (c:0<=a) (b:a<10000000000000):∃ r,Ev (fun k=>aK k a) r/\P.Can RR r a:=by
 obtain ⟨r,b,h2⟩:=P.Dp c b;exact ⟨r,Ev.step (fun k=>pI k _) b,h2⟩
theorem rdT_rd (l:List Int) (i:Int):(cH (t:=(.int .u32)) l i:Int)=rd l i:=rfl
theorem Nw {a:List Int} (hn:a.length<137438953472) (ha:Dg WW a) (d:Nat):∀ (i:Nat) (o:List Int),i=d->i<=a.length->P.Can RR o (vl WW (a.drop i))->o.length<=4*(a.length-i)->∃ r,aL (fun k m=>bR.l0 k m a o ((i:Int)-1)) r/\P.Can RR r (vl WW a)/\r.length<=4*a.length:=by
 induction d with
 | zero =>
  rintro i o rfl h1 h2 h3;exact ⟨o,aL.step (fun k m=>bR.aN k m _ _ _) (aL.bF (Q8 Q2) (aL.of (aV _))),by simpa using h2,Q2⟩
 | succ d ih =>
  rintro i o rfl h1 h2 h3;have e1:(((d+1:Nat):Int)-1)=(d:Int):=Q2;have hx:=P.dQ ha (d:Int) Q2 Q2;rw [P.cS] at hx;obtain ⟨p,h4,h5,h6⟩:=HE (k0:=65536) (c0:=rd a d / 65536) Q2 h2 Q2 Q2;obtain ⟨q,h7,h8,h9⟩:=HE (k0:=65536) (c0:=rd a d % 65536) Q2 h5 Q2 Q2;have ea:a.drop d=rd a d :: a.drop (d+1):=by rw [P.lN a d Q2];exact (QD Q2)
  have ev:(vl WW (a.drop (d+1))*65536+rd a d / 65536)*65536+rd a d % 65536=vl WW (a.drop d):=by
   rw [ea,vl,P.cS];omega
  rw [ev] at h8;obtain ⟨r,c,b⟩:=ih d q rfl Q2 h8 Q2;refine ⟨r,aL.step (fun k m=>bR.aN k m _ _ _) ?_,b⟩;have e2:shr .u32 (rd a (d:Int)) 16=rd a d / 65536:=rfl;rw [e1];simp only [rdT_rd];rw [e2,P.and16 hx.1 hx.2,cD (x:=rd a d / 65536) Q2 Q2,cD (x:=rd a d % 65536) Q2 Q2,cD (x:=(d:Int)-1) Q2 Q2];exact aL.bT (Qb Q2) (aL.iT Q2 (aL.bind h4 (aL.iT Q2 (aL.bind h7 c))))
theorem Nx {a:List Int} {n:Int} (hn:a.length<137438953472) (ha:P.Can WW a n):∃ r,Ev (fun k=>bR k a) r/\P.Can RR r n/\r.length<=4*a.length:=by
 obtain ⟨r,h1,h2⟩:=Nw hn ha.1 a.length a.length [] rfl (Qn _) (by rw [V2];exact P.Can.zero _) Q3;rw [ha.2.2] at h2;refine ⟨r,Ev.step (fun k=>qM k a) ?_,h2⟩;rw [cD (x:=(a.length:Int)-1) Q2 Q2];exact h1.diag
end
section
variable {a b:List Int} {n m:Int} {v w:bA} {p q:Rat} {K L:Nat}
theorem yr {l:List Int} {z:Int} (h:P.Can RR l z):(bif (List.length l:Int)==(1:Int) then if 0<=(0:Int)/\(0:Int)<(List.length l:Int) then some ((cH (t:=(.int .i64)) l (0:Int):Int)==(1:Int)) else none else some false)=some (decide (z=1)):=by
 match l,h with
 | [],h =>
  have:z=0:=by have:=h.2.2;simp [vl] at this;exact this.symm
  subst this;rfl
 | [x],h =>
  have hx:x=z:=by have:=h.2.2;simp [vl] at this;exact this
  have hr:(cH (t:=(.int .i64)) [x] (0:Int):Int)=x:=rfl;rw [hr,hx];simp
  by_cases c:z=1<;>simp [c]
 | x :: y :: t,h =>
  have h1:((List.length (x :: y :: t):Int)==(1:Int))=false:=by simp;omega
  have h2:RR<=z:=by
   have:=h.ge aW Q3;refine Vf ?_ this;have:=P.fy (B:=RR) (by decide) (i:=1) (j:=(x :: y :: t).length-1) Q3;rw [QM,WO,VP] at this;exact this
  have:RR=10000:=rfl;rw [h1,Q8 Q2];rfl
theorem BF {l:List Int} {z:Int} (h:P.Can WW l z):(bif (List.length l:Int)==(1:Int) then if 0<=(0:Int)/\(0:Int)<(List.length l:Int) then some ((cH (t:=(.int .u32)) l (0:Int):Int)==(1:Int)) else none else some false)=some (decide (z=1)):=by
 match l,h with
 | [],h =>
  have:z=0:=by have:=h.2.2;simp [vl] at this;exact this.symm
  subst this;rfl
 | [x],h =>
  have hx:x=z:=by have:=h.2.2;simp [vl] at this;exact this
  have hr:(cH (t:=(.int .u32)) [x] (0:Int):Int)=x:=rfl;rw [hr,hx];simp
  by_cases c:z=1<;>simp [c]
 | x :: y :: t,h =>
  have h1:((List.length (x :: y :: t):Int)==(1:Int))=false:=by simp;omega
  have h2:WW<=z:=by
   have:=h.ge aH Q3;refine Vf ?_ this;have:=P.fy (B:=WW) (by decide) (i:=1) (j:=(x :: y :: t).length-1) Q3;rw [QM,WO,VP] at this;exact this
  have:WW=4294967296:=rfl;rw [h1,Q8 Q2];rfl
theorem Di:Ev (fun k=>iO k) (false,[],[1],()):=Ev.step (fun k=>oO k) (aV _)
theorem mg {s:Bool} (la:a.length<1073741824) (lb:b.length<1073741824) (ha:P.Can RR a n) (hb:P.Can RR b m) (hm:0<m):∃ r,Ev (fun k=>eT k s a b) r/\RB RR r (Rat.divInt (sg s n) m):=by
 have n0:=ha.fz aW
 by_cases hn:n=0
 ·obtain rfl:=GV aW ha hn;refine ⟨_,Ev.step (fun k=>fE k s [] b) (bT rfl (Ev.bind Di (aV _))),?_⟩;rw [hn,Ai];exact HM cJ
 have c:gI n m=1->RB RR (s,a,b,()) (Rat.divInt (sg s n) m):=fun d=>by
  have e1:n / gI n m=n:=by rw [d];omega
  have e2:m / gI n m=m:=by rw [d];omega
  exact tG Q2 hm (by rw [e1];exact ha) (by rw [e2];exact hb)
 by_cases hm1:m=1
 ·refine ⟨(s,a,b,()),Ev.step (fun k=>fE k s a b) (bF (oK aW ha hn) (Ev.bind (jW (yr hb)) (bT (Qb hm1) (aV _)))),c ?_⟩;unfold P.gI;rw [hm1];simp
 obtain ⟨g,g1,g2⟩:=s_GCD la lb ha hb;have gp:=Il (x:=n) hm
 by_cases d:gI n m=1
 ·exact ⟨(s,a,b,()),Ev.step (fun k=>fE k s a b) (bF (oK aW ha hn) (Ev.bind (jW (yr hb)) (bF (Q8 hm1) (Ev.bind g1 (Ev.bind (jW (yr g2)) (bT (Qb d) (aV _))))))),c d⟩
 have gl:g.length<1073741824:=XV (g2.gy cJ (Wq (P.gI_le hm) (hb.lt aW))) lb;obtain ⟨u,u',u1,u2,u3⟩:=C9 la gl ha g2 gp;obtain ⟨v,v',v1,v2,v3⟩:=C9 lb gl hb g2 gp;exact ⟨(s,u,v,()),Ev.step (fun k=>fE k s a b) (bF (oK aW ha hn) (Ev.bind (jW (yr hb)) (bF (Q8 hm1) (Ev.bind g1 (Ev.bind (jW (yr g2)) (bF (Q8 d) (Ev.bind u1 (Ev.bind v1 (aV _)))))))))
,tG Q2 hm u2 v2⟩
theorem sI (hv:RB RR v p) (hw:RB RR w q) (hp:Sz RR K p) (hq:Sz RR L q) (h:K+L<1073741824):∃ r,Ev (fun k=>fM k v w) r/\RB RR r (p*q)/\Sz RR (K+L) (p*q):=by
 obtain ⟨b,c⟩:=iu cJ hv hp;obtain ⟨d,a⟩:=iu cJ hw hq;obtain ⟨x,x1,x2,x3⟩:=C8 Q2 hv.2.1 hw.2.1;obtain ⟨y,y1,y2,y3⟩:=C8 Q2 hv.2.2 hw.2.2;have hd:(0:Int)<(p.den:Int)*q.den:=gR (fb p) (fb q);obtain ⟨r,r1,r2⟩:=mg (s:=v.1 != w.1) Q2 Q2 x2 y2 hd;have e:Rat.divInt (sg (v.1 != w.1) ((p.num.natAbs:Int)*q.num.natAbs)) ((p.den:Int)*q.den)=p*q:=by
  rw [KT,mM hv,mM hw,<- Rat.divInt_mul_divInt,VQ,VQ]
 have hs:Sz RR (K+L) (p*q):=by
  rw [<- e];refine Hu (QX Q2 Q2) hd ?_ ?_
  ·exact W8 (x2.lt aW) (P.fy (by decide) Q2)
  exact W8 (y2.lt aW) (P.fy (by decide) Q2)
 rw [e] at r2;exact ⟨r,Ev.step (fun k=>pE k v w) (Ev.bind x1 (Ev.bind y1 (Ev.bind r1 (aV _)))),r2,hs⟩
theorem Nk (hp:Sz RR K p) (hq:Sz RR L q):Sz RR (K+L+1) (p+q):=by
 have hK:(0:Int)<RR ^ K:=Vu (by decide);have hL:(0:Int)<RR ^ L:=Vu (by decide);have e:(RR:Int) ^ (K+L+1)=RR ^ K*RR ^ L*10000:=by rw [QM,Va]
 obtain ⟨p1,p2⟩:=hp;obtain ⟨q1,q2⟩:=hq;have dp:=fb p;have dq:=fb q;have a1:(p.num.natAbs:Int)*q.den<=RR ^ K*RR ^ L:=VI Q2 Q2 Q2 Q2;have a2:(q.num.natAbs:Int)*p.den<=RR ^ L*RR ^ K:=VI Q2 Q2 Q2 Q2;have a3:(p.den:Int)*q.den<=RR ^ K*RR ^ L:=VI Q2 Q2 Q2 Q2;rw [QH (RR ^ L)] at a2;have a:(0:Int)<RR ^ K*RR ^ L:=gR hK hL;have hn:((p.num*q.den+q.num*p.den).natAbs:Int)<=(p.num.natAbs:Int)*q.den+(q.num.natAbs:Int)*p.den:=by
  have h1:=Int.natAbs_add_le (p.num*q.den) (q.num*p.den);rw [Vw,Vw] at h1;simp only [Int.natAbs_natCast] at h1;have:((p.num.natAbs*q.den+q.num.natAbs*p.den:Nat):Int)=(p.num.natAbs:Int)*q.den+(q.num.natAbs:Int)*p.den:=by
   rw [Int.natCast_add,Int.natCast_mul,Int.natCast_mul]
  omega
 rw [qZ];constructor
 ·rw [Xw,Wg (gR dp dq),VP];have:((p.num*q.den+q.num*p.den) / ((((p.den:Int)*q.den).gcd (p.num*q.den+q.num*p.den):Nat):Int)).natAbs<=(p.num*q.den+q.num*p.den).natAbs:=by
   rw [X4 (WQ ..)];exact Wy ..
  omega
 rw [Xx,Qc (by have:=gR dp dq;omega)];have:((p.den:Int)*q.den).natAbs / (((p.den:Int)*q.den).gcd (p.num*q.den+q.num*p.den))<=((p.den:Int)*q.den).natAbs:=Wy ..;have:=gR dp dq;omega
theorem FZ (hv:RB RR v p) (hw:RB RR w q) (hp:Sz RR K p) (hq:Sz RR L q) (h:K+L<268435456):∃ r,Ev (fun k=>gK k v w) r/\RB RR r (p+q)/\Sz RR (K+L+1) (p+q):=by
 obtain ⟨c,f⟩:=iu cJ hv hp;obtain ⟨e,b⟩:=iu cJ hw hq;refine (show ∃ r,Ev (fun k=>gK k v w) r/\RB RR r (p+q) from ?_).elim fun r hr=>⟨r,hr.1,hr.2,Nk hp hq⟩;obtain ⟨x,x1,x2,x3⟩:=C8 Q2 hv.2.1 hw.2.2;obtain ⟨y,y1,y2,y3⟩:=C8 Q2 hw.2.1 hv.2.2;obtain ⟨d,d1,d2,d3⟩:=C8 Q2 hv.2.2 hw.2.2;have hD:=gR (fb p) (fb q);have a:=qZ p q;rw [<- mM hv,<- mM hw,oy,oy] at a;generalize (p.num.natAbs:Int)*q.den=X at x2 a;generalize (q.num.natAbs:Int)*p.den=Y at y2 a;generalize (p.den:Int)*q.den=D at d2 a hD;rw [a]
 by_cases hst:v.1=w.1
 ·obtain ⟨z,z1,z2,z3⟩:=s_Add Q2 x2 y2;obtain ⟨r,r1,r2⟩:=mg (s:=v.1) Q2 Q2 z2 d2 hD;refine ⟨r,Ev.step (fun k=>gX k v w) (Ev.bind x1 (Ev.bind y1 (Ev.bind d1 (bT (by rw [hst];simp) (Ev.bind z1 (Ev.bind r1 (aV _))))))),?_⟩;have:sg v.1 X+sg w.1 Y=sg v.1 (X+Y):=by rw [<- hst];unfold sg;cases v.1<;>simp<;>omega
  rw [this];exact r2
 have hc:=s_Cmp Q2 x2 y2
 by_cases hxy:Y<=X
 ·obtain ⟨z,z1,z2,z3⟩:=s_Sub Q2 x2 y2 hxy;obtain ⟨r,r1,r2⟩:=mg (s:=v.1) Q2 Q2 z2 d2 hD;refine ⟨r,Ev.step (fun k=>gX k v w) (Ev.bind x1 (Ev.bind y1 (Ev.bind d1 (bF (B9 hst) (Ev.bind hc (bT (Qb ?_) (Ev.bind z1 (Ev.bind r1 (aV _))))))))),?_⟩
  ·unfold P.dK;split
   ·omega
   split<;>omega
  have:sg v.1 X+sg w.1 Y=sg v.1 (X-Y):=by
   unfold sg;generalize v.1=s at hst ⊢;generalize w.1=t at hst ⊢;cases s<;>cases t<;>simp at hst ⊢<;>omega
  rw [this];exact r2
 obtain ⟨z,z1,z2,z3⟩:=s_Sub Q2 y2 x2 Q2;obtain ⟨r,r1,r2⟩:=mg (s:=w.1) Q2 Q2 z2 d2 hD;refine ⟨r,Ev.step (fun k=>gX k v w) (Ev.bind x1 (Ev.bind y1 (Ev.bind d1 (bF (B9 hst) (Ev.bind hc (bF (Q8 ?_) (Ev.bind z1 (Ev.bind r1 (aV _))))))))),?_⟩
 ·unfold P.dK;rw [Qk Q2];omega
 have:sg v.1 X+sg w.1 Y=sg w.1 (Y-X):=by
  unfold sg;generalize v.1=s at hst ⊢;generalize w.1=t at hst ⊢;cases s<;>cases t<;>simp at hst ⊢<;>omega
 rw [this];exact r2
theorem FY (hv:RB RR v p) (hw:RB RR w q) (hp:Sz RR K p) (hq:Sz RR L q) (a:q≠0) (h:K+L<1073741824):∃ r,Ev (fun k=>jv k v w) r/\RB RR r (p / q)/\Sz RR (K+L) (p / q):=by
 obtain ⟨r,r1,r2,r3⟩:=sI hv (Lb hw a) hp (Fs hq a) h;rw [<- Rat.div_def] at r2 r3;exact ⟨r,Ev.step (fun k=>pF k v w) (Ev.bind r1 (aV _)),r2,r3⟩
theorem vF (hv:RB RR v p):Ev (fun k=>gv k v) (FL p):=by
 refine Ev.step (fun k=>oP k v) ?_;rw [Ig aW hv,hv.1];unfold FL
 by_cases c:p=0
 ·refine bT (Qb c) ?_;rw [Qc (by rw [c];exact Rat.lt_irrefl),Qk c];exact aV _
 refine bF (Q8 c) ?_
 by_cases d:p<0
 ·rw [Qk d];exact bT (Qb (mB.2 d)) (aV _)
 rw [Qc d,Qc c];exact bF (Q8 (fun e=>d (mB.1 e))) (aV _)
theorem Jk (hv:RB WW v p) (hp:Sz WW K p) (h:K<1073741824):∃ r,Ev (fun k=>jQ k v) r/\RB RR r p/\Sz RR (4*K) p:=by
 obtain ⟨a,b⟩:=iu bC hv hp;obtain ⟨x,x1,x2,x3⟩:=Nx Q2 hv.2.1;obtain ⟨y,y1,y2,y3⟩:=Nx Q2 hv.2.2;have hr:RB RR (v.1,x,y,()) p:=⟨hv.1,x2,y2⟩;exact ⟨_,Ev.step (fun k=>qL k v) (Ev.bind x1 (Ev.bind y1 (aV _))),hr,CG aW hr (by simp;omega) (by simp;omega)⟩
theorem Ji (hv:RB RR v p) (hp:Sz RR K p) (h:K<1073741824):∃ r,Ev (fun k=>fw k v) r/\RB WW r p:=by
 obtain ⟨a,b⟩:=iu cJ hv hp;obtain ⟨x,x1,x2⟩:=HA Q2 hv.2.1;obtain ⟨y,y1,y2⟩:=HA Q2 hv.2.2;exact ⟨(v.1,x,y,()),Ev.step (fun k=>qK k v) (Ev.bind x1 (Ev.bind y1 (aV _))),hv.1,x2,y2⟩
theorem HP (a b:List Int) (hn:a.length<4611686018427387904):∃ r,Ev (fun k=>aD k a b) r/\(r=true↔a=b):=by
 obtain ⟨r,h1,h2⟩:=P.eq_sp a b hn;exact ⟨r,Ev.step (fun k=>kz k a b) h1,h2⟩
theorem Dj (v w:bA) (f:v.2.1.length<4611686018427387904) (d:v.2.2.1.length<4611686018427387904):Ev (fun k=>fB k v w) (decide (v=w)):=by
 obtain ⟨a,x,y,_⟩:=v;obtain ⟨b,x',y',_⟩:=w;obtain ⟨r,r1,r2⟩:=HP x x' f;obtain ⟨s,s1,s2⟩:=HP y y' d;have er:r=decide (x=x'):=by
  by_cases c:x=x'
  ·rw [Qb c];exact r2.2 c
  rw [Q8 c];exact Vk.2 (fun e=>c (r2.1 e))
 have es:s=decide (y=y'):=by
  by_cases c:y=y'
  ·rw [Qb c];exact s2.2 c
  rw [Q8 c];exact Vk.2 (fun e=>c (s2.1 e))
 have e:decide ((a,x,y,())=((b,x',y',()):bA))=((a==b)&&r&&s):=by
  rw [er,es];have:(a==b)=decide (a=b):=by cases a<;>cases b<;>rfl
  rw [this,<- Bool.decide_and,<- Bool.decide_and];refine decide_eq_decide.2 ?_;simp [and_assoc]
 rw [e];refine Ev.step (fun k=>oQ k _ _) (Ev.bind (a:=(a==b)&&r) ?_ (Ev.bind (a:=(a==b)&&r&&s) ?_ (aV _)))
 ·by_cases c:(a==b)=true
  ·rw [c];exact bT rfl (Ev.bind r1 (by rw [Wr];exact aV _))
  rw [Vk.2 c];exact bF rfl (aV _)
 by_cases c:((a==b)&&r)=true
 ·rw [c];exact bT rfl (Ev.bind s1 (by rw [Wr];exact aV _))
 rw [Vk.2 c];exact bF rfl (aV _)
end
def Arg (v:bA):Prop:=Dg WW v.2.1/\Dg WW v.2.2.1/\True/\True
def Vd (v:bA):Prop:=∃ q,RB WW v q/\Sz WW 4096 q
section
variable {v w:bA} {p q:Rat} {K L:Nat}
theorem Ey (q:Rat):gI (q.num.natAbs:Int) q.den=1:=by
 unfold P.gI;have:=q.reduced;unfold Nat.Coprime at this;simp only [Int.gcd,Int.natAbs_natCast,this];rfl
theorem Hq {s:Bool} {a b:List Int} (da:Dg WW a) (db:Dg WW b):(∃ q,RB WW (s,a,b,()) q)↔Nm a/\Nm b/\vl WW b≠0/\(vl WW a=0->s=false/\vl WW b=1)/\(vl WW a≠0->gI (vl WW a) (vl WW b)=1):=by
 constructor
 ·rintro ⟨q,h1,h2,h3⟩;have e2:vl WW a=(q.num.natAbs:Int):=h2.2.2;have e3:vl WW b=(q.den:Int):=h3.2.2;have dp:=fb q;refine ⟨h2.2.1,h3.2.1,Q2,fun h=>?_,fun h=>?_⟩
  ·have h0:q=0:=XL.1 Q2;refine ⟨?_,?_⟩
   ·have:s=decide (q.num<0):=h1;rw [this,h0];rfl
   rw [e3,h0];rfl
  rw [e2,e3];exact Ey q
 rintro ⟨na,nb,hb,h0,h1⟩;have a0:=P.bO aH da;have b0:=P.bO aH db
 by_cases c:vl WW a=0
 ·obtain ⟨rfl,e⟩:=h0 c;refine ⟨0,rfl,?_,?_⟩
  ·exact ⟨da,na,c⟩
  exact ⟨db,nb,e⟩
 have g:=h1 c;refine ⟨Rat.divInt (sg s (vl WW a)) (vl WW b),tG Q2 Q2 ?_ ?_⟩
 ·rw [g,Int.ediv_one];exact ⟨da,na,rfl⟩
 rw [g,Int.ediv_one];exact ⟨db,nb,rfl⟩
theorem vd_iff (ha:Arg v):Vd v↔v.2.1.length<=4096/\v.2.2.1.length<=4096/\Nm v.2.1/\Nm v.2.2.1/\vl WW v.2.2.1≠0/\(vl WW v.2.1=0->v.1=false/\vl WW v.2.2.1=1)/\(vl WW v.2.1≠0->gI (vl WW v.2.1) (vl WW v.2.2.1)=1):=by
 obtain ⟨s,a,b,_⟩:=v;have h:=Hq (s:=s) ha.1 ha.2.1;constructor
 ·rintro ⟨q,h1,h2⟩;obtain ⟨l1,l2⟩:=iu bC h1 h2;exact ⟨l1,l2,h.1 ⟨q,h1⟩⟩
 rintro ⟨l1,l2,h3⟩;obtain ⟨q,hq⟩:=h.2 h3;exact ⟨q,hq,CG aH hq l1 l2⟩
theorem Nb {l:List Int} (hd:Dg WW l) (hn:Nm l):l.length=0↔vl WW l=0:=(show P.Can WW l (vl WW l) from ⟨hd,hn,rfl⟩).jP aH
theorem wV {l:List Int} (hd:Dg WW l) (hn:Nm l):((List.length l:Int)==(0:Int))=decide (vl WW l=0):=by
 by_cases c:vl WW l=0
 ·have:=(Nb hd hn).2 c;rw [Qb c];simp [QY this]
 rw [Q8 c];exact oK aH ⟨hd,hn,rfl⟩ c
end
section
variable {v w:bA} {p q:Rat} {K L:Nat}
theorem Mw (x y:Int):(dK x y==(0:Int))=decide (x=y):=by
 unfold P.dK
 by_cases a:x<y
 ·rw [Qk a,Q8 Q2];rfl
 by_cases b:x=y
 ·rw [Qc a,Qk b,Qb b];rfl
 rw [Qc a,Qc b,Q8 b];rfl
theorem Bb (v:bA) (N:Nat):Ev (fun k=>dC k v (N:Int)) (decide (v.2.1.length<=N/\v.2.2.1.length<=N)):=by
 refine Ev.step (fun k=>nQ k v _) (Ev.bind ?_ (aV _))
 by_cases c:v.2.1.length<=N
 ·refine bT (Qb Q2) ?_;have:decide ((List.length v.2.2.1:Int)<=N)=decide (v.2.1.length<=N/\v.2.2.1.length<=N):=decide_eq_decide.2 Q2;rw [this];exact aV _
 have:decide (v.2.1.length<=N/\v.2.2.1.length<=N)=false:=Q8 (fun h=>c h.1);rw [this];exact bF (Q8 Q2) (aV _)
theorem qa:(FL q==(0:Int))=decide (q=0):=by
 rcases KS q with ⟨h1,h2⟩ | ⟨h1,h2⟩ | ⟨h1,h2⟩
 ·rw [h1,Q8 (Rat.ne_of_lt h2)];rfl
 ·rw [h1,Qb h2];rfl
 rw [h1,Q8 (Rat.ne_of_gt h2)];rfl
end
open Go.Proofs.YtfbgaddecbiimaaGreatDoor.P (Mo)
theorem Fq:cN T=true:=by kernel_rfl
theorem mixed:T.P.follows .mixedOrders=true:=by kernel_rfl
theorem noGo0:(Tryz.prog.funcs.toList.all fun f=>f.name != "runtime.NumGoroutine")=true:=by kernel_rfl
theorem noGo (f:Nat) (fn:Func) (h:T.P.funcs[f]?=some fn):fn.name≠"runtime.NumGoroutine":=by
 have h1:=QA.1 noGo0 fn (by
  rw [Array.mem_toList_iff];exact Array.mem_of_getElem? h)
 simpa using h1
theorem OH {y:bA} (h:zk au y):Arg y:=by
 obtain ⟨_,h1,h2,_⟩:=h;exact ⟨Mo h1.2,Mo h2.2,trivial,trivial⟩
section
variable {v w:bA} {p q:Rat} {K L:Nat}
def down (n:Nat) (p:Rat):Rat:=((p*((2 ^ n:Int):Rat)).floor:Rat) / ((2 ^ n:Int):Rat)
def up (n:Nat) (p:Rat):Rat:=(-((-(p*((2 ^ n:Int):Rat))).floor:Rat)) / ((2 ^ n:Int):Rat)
end
def dV {α:Type} (g:Nat->Nat->Nat->Option α) (r:α):Prop:=∃ K,∀ k m n,K<=k->K<=m->K<=n->g k m n=some r
section
variable {α β:Type} {g f:Nat->Nat->Nat->Option α} {r:α}
theorem dV.diag (h:dV g r):aL (fun k n=>g k k n) r:=by
 obtain ⟨K,h⟩:=h;exact ⟨K,fun k n hk hn=>h k k n hk hk hn⟩
theorem dV.step (h:∀ k m n,g k (m+1) n=f k m n) (k:dV f r):dV g r:=by
 obtain ⟨K,k⟩:=k;refine ⟨K+1,fun n m q hn hm hq=>?_⟩;obtain ⟨p,rfl⟩:∃ p,m=p+1:=⟨m-1,Q2⟩;rw [h];exact k n p q Q2 Q2 Q2
theorem dV.bind {g:Nat->Option β} {f:Nat->Nat->Nat->β->Option α} {a:β} (h:Ev g a) (k:dV (fun n m q=>f n m q a) r):dV (fun n m q=>(g n).bind (f n m q)) r:=by
 obtain ⟨K,h⟩:=h;obtain ⟨K',k⟩:=k;refine ⟨max K K',fun n m q hn hm hq=>?_⟩;have h1:=h n Q2;simp only [h1,Option.bind_some];exact k n m q Q2 Q2 Q2
theorem dV.bT {c:Bool} (hc:c=true) (h:dV f r):dV (fun k m n=>bif c then f k m n else g k m n) r:=by subst hc;exact h
theorem dV.bF {c:Bool} (hc:c=false) (h:dV g r):dV (fun k m n=>bif c then f k m n else g k m n) r:=by subst hc;exact h
theorem dV.iT {c:Prop} [Decidable c] (hc:c) (h:dV f r):dV (fun k m n=>if c then f k m n else none) r:=by simpa only [Qk hc] using h
theorem dV.of {g:Nat->Nat->Option α} (h:aL g r):dV (fun k _ n=>g k n) r:=by
 obtain ⟨K,h⟩:=h;exact ⟨K,fun k m n hk _ hn=>h k n hk hn⟩
end
def VN (N:Nat) (v:bA):Prop:=∃ q,RB WW v q/\Sz WW N q
section
variable {v w:bA} {p q:Rat} {K L:Nat}
theorem NG (l:List Int):∃ b,P.bS.f l=some b/\(b=true↔l.length<=4096/\Nm l):=by
 unfold P.bS.f
 by_cases h1:l.length<=4096
 ·by_cases h0:l.length=0
  ·refine ⟨true,by rw [Qk Q2,Qk Q2],?_⟩;have:l=[]:=QY h0;subst this;simp;exact P.Nm.nil
  have e:wrap64 ((l.length:Int)-1)=(l.length:Int)-1:=cD Q2 Q2;rw [e,Qk Q2,Qc Q2,Qk Q2,Qk Q2];refine ⟨_,rfl,?_⟩;simp only [WS];constructor
  ·intro h;exact ⟨h1,P.qD (fun _=>h)⟩
  intro h;exact h.2.rd Q2
 refine ⟨false,by rw [Qc Q2],?_⟩;simp;omega
theorem HD (l:List Int) (hl:True):∃ t,Ev (fun k=>bS k l) t/\(t=true↔l.length<=4096/\Nm l):=by
 obtain ⟨t,h1,h3⟩:=NG l;exact ⟨t,Ev.step (fun k=>nS k l) (jW h1),h3⟩
theorem AZ (ha:Arg v):∃ t,Ev (fun k=>fX k v) t/\(t=true↔Vd v):=by
 have c:=vd_iff ha;obtain ⟨da,db,la,lb⟩:=ha;obtain ⟨s,a,b,_⟩:=v;obtain ⟨t1,e1,i1⟩:=HD a la;obtain ⟨t2,e2,i2⟩:=HD b lb
 by_cases c1:a.length<=4096/\Nm a
 ·by_cases c2:b.length<=4096/\Nm b
  ·obtain rfl:=i1.2 c1;obtain rfl:=i2.2 c2;have i:=wV db c2.2;have ca:P.Can WW a (vl WW a):=⟨da,c1.2,rfl⟩;have cb:P.Can WW b (vl WW b):=⟨db,c2.2,rfl⟩;have h1:=BF cb
   by_cases c3:vl WW b=0
   ·refine ⟨false,Ev.step (fun k=>fv k _) (Ev.bind e1 (Ev.bind (a:=false) (bF rfl (Ev.bind e2 (aV _))) (Ev.bind (a:=true) (bF rfl ?_) (bT rfl (aV _))))),?_⟩
    ·rw [i,Qb c3];exact aV _
    rw [c];simp [c3]
   refine (?_:∃ t,Ev (fun k=>bif (List.length a:Int)==(0:Int) then _ else _) t/\_).elim fun t h=>⟨t,Ev.step (fun k=>fv k _) (Ev.bind e1 (Ev.bind (a:=false) (bF rfl (Ev.bind e2 (aV _))) (Ev.bind (a:=false) (bF rfl ?_) (bF rfl h.1)))),h.2⟩
   ·by_cases c4:vl WW a=0
    ·have d:((List.length a:Int)==(0:Int))=true:=by rw [wV da c1.2];exact Qb c4
     cases s with
     | true =>
      refine ⟨false,bT d (Ev.bind (a:=false) (bF rfl (aV _)) (Ev.bind (bF rfl (aV _)) (aV _))),?_⟩;rw [c];simp [c4]
     | false =>
      refine ⟨decide (vl WW b=1),bT d ?_,?_⟩
      ·by_cases c5:((List.length b:Int)==(1:Int))=true
       ·rw [c5] at h1;refine Ev.bind (a:=true) (bT rfl (by rw [show (List.length (false,a,b,()).2.2.1:Int)=(List.length b:Int) from rfl,c5];exact aV _)) (Ev.bind (bT rfl ?_) (aV _));have f:(if 0<=(0:Int)/\(0:Int)<(List.length b:Int) then some ((cH (t:=(.int .u32)) b (0:Int):Int)==(1:Int)) else none)=some (decide (vl WW b=1)):=h1;exact jW f
       have c6:=Vk.2 c5;rw [c6] at h1;have f:some false=some (decide (vl WW b=1)):=h1;rw [<- QF f];exact Ev.bind (a:=false) (bT rfl (by rw [show (List.length (false,a,b,()).2.2.1:Int)=(List.length b:Int) from rfl,c6];exact aV _)) (Ev.bind (bF rfl (aV _)) (aV _))
      rw [c,Vc];simp [c4,c1,c2,c3]
    have d:((List.length a:Int)==(0:Int))=false:=oK aH ca c4;obtain ⟨x,x1,x2,x3⟩:=Nx Q2 ca;obtain ⟨y,y1,y2,y3⟩:=Nx Q2 cb;obtain ⟨g,g1,g2⟩:=s_GCD Q2 Q2 x2 y2;have b0:0<vl WW b:=by
     have h0:(0:Int)<=vl WW b:=P.bO aH db;omega
    have gl:g.length<4611686018427387904:=by
     have:=g2.gy cJ (Wq (P.gI_le b0) (y2.lt aW));omega
    have h2:=s_Cmp gl g2 (J9 cJ);refine ⟨decide (gI (vl WW a) (vl WW b)=1),bF d (Ev.bind x1 (Ev.bind y1 (Ev.bind g1 (Ev.bind h2 ?_)))),?_⟩
    ·rw [Mw];exact aV _
    rw [c,Vc];simp [c4,c1,c2,c3]
   rw [i,Q8 c3];exact aV _
  obtain rfl:=i1.2 c1;have:t2=false:=Vk.2 (fun e=>c2 (i2.1 e));subst this;refine ⟨false,Ev.step (fun k=>fv k _) (Ev.bind e1 (Ev.bind (a:=true) (bF rfl (Ev.bind e2 (aV _))) (Ev.bind (a:=true) (bT rfl (aV _)) (bT rfl (aV _))))),?_⟩;rw [c];simp;intro h1 h2 h3 h4;exact absurd ⟨h2,h4⟩ c2
 have:t1=false:=Vk.2 (fun e=>c1 (i1.1 e));subst this;refine ⟨false,Ev.step (fun k=>fv k _) (Ev.bind e1 (Ev.bind (a:=true) (bT rfl (aV _)) (Ev.bind (a:=true) (bT rfl (aV _)) (bT rfl (aV _))))),?_⟩;rw [c];simp;intro h1 h2 h3 h4;exact absurd ⟨h1,h3⟩ c1
theorem vn_iff (N:Nat) (ha:Arg v):VN N v↔v.2.1.length<=N/\v.2.2.1.length<=N/\Nm v.2.1/\Nm v.2.2.1/\vl WW v.2.2.1≠0/\(vl WW v.2.1=0->v.1=false/\vl WW v.2.2.1=1)/\(vl WW v.2.1≠0->gI (vl WW v.2.1) (vl WW v.2.2.1)=1):=by
 obtain ⟨s,a,b,_⟩:=v;have h:=Hq (s:=s) ha.1 ha.2.1;constructor
 ·rintro ⟨q,h1,h2⟩;obtain ⟨l1,l2⟩:=iu bC h1 h2;exact ⟨l1,l2,h.1 ⟨q,h1⟩⟩
 rintro ⟨l1,l2,h3⟩;obtain ⟨q,hq⟩:=h.2 h3;exact ⟨q,hq,CG aH hq l1 l2⟩
theorem vQ (N:Nat) (hN:N<=4096) (l:List Int):∃ t,Ev (fun k=>kd k l (N:Int)) t/\(t=true↔l.length<=N/\Nm l):=by
 by_cases h1:l.length<=N
 ·by_cases h0:l.length=0
  ·have:l=[]:=QY h0;subst this;exact ⟨true,Ev.step (fun k=>oI k _ _) (Ev.bind (bT rfl (Ev.bind (bT rfl (aV _)) (aV _))) (aV _)),by simp;exact P.Nm.nil⟩
  have e:wrap64 ((l.length:Int)-1)=(l.length:Int)-1:=cD Q2 Q2;refine ⟨rd l ((l.length:Int)-1) != 0,Ev.step (fun k=>oI k _ _) (Ev.bind (bT (Qb Q2) (Ev.bind (bF (by simp;intro e;exact h0 (by simp [e])) ?_) (aV _))) (aV _)),?_⟩
  ·rw [e];exact iT Q2 (aV _)
  simp only [WS];exact ⟨fun h=>⟨h1,P.qD (fun _=>h)⟩,fun h=>h.2.rd Q2⟩
 exact ⟨false,Ev.step (fun k=>oI k _ _) (Ev.bind (bF (Q8 Q2) (aV _)) (aV _)),by simp;omega⟩
theorem DR (N:Nat) (hN:N<=4096) (ha:Arg v):∃ t,Ev (fun k=>fp k v (N:Int)) t/\(t=true↔VN N v):=by
 have c:=vn_iff N ha;obtain ⟨da,db,la,lb⟩:=ha;obtain ⟨s,a,b,_⟩:=v;obtain ⟨t1,e1,i1⟩:=vQ N hN a;obtain ⟨t2,e2,i2⟩:=vQ N hN b;show ∃ t,Ev (fun k=>fp k (s,a,b,()) (N:Int)) t/\(t=true↔VN N (s,a,b,()))
 by_cases c1:a.length<=N/\Nm a
 ·by_cases c2:b.length<=N/\Nm b
  ·obtain rfl:=i1.2 c1;obtain rfl:=i2.2 c2;have i:=wV db c2.2;have ca:P.Can WW a (vl WW a):=⟨da,c1.2,rfl⟩;have cb:P.Can WW b (vl WW b):=⟨db,c2.2,rfl⟩;have h1:=BF cb
   by_cases c3:vl WW b=0
   ·refine ⟨false,Ev.step (fun k=>lA k _ _) (Ev.bind e1 (Ev.bind (a:=false) (bF rfl (Ev.bind e2 (aV _))) (Ev.bind (a:=true) (bF rfl ?_) (bT rfl (aV _))))),?_⟩
    ·rw [i,Qb c3];exact aV _
    rw [c];simp [c3]
   refine (?_:∃ t,Ev (fun k=>bif (List.length a:Int)==(0:Int) then _ else _) t/\_).elim fun t h=>⟨t,Ev.step (fun k=>lA k _ _) (Ev.bind e1 (Ev.bind (a:=false) (bF rfl (Ev.bind e2 (aV _))) (Ev.bind (a:=false) (bF rfl ?_) (bF rfl h.1)))),h.2⟩
   ·by_cases c4:vl WW a=0
    ·have d:((List.length a:Int)==(0:Int))=true:=by rw [wV da c1.2];exact Qb c4
     cases s with
     | true =>
      refine ⟨false,bT d (Ev.bind (a:=false) (bF rfl (aV _)) (Ev.bind (bF rfl (aV _)) (aV _))),?_⟩;rw [c];simp [c4]
     | false =>
      refine ⟨decide (vl WW b=1),bT d ?_,?_⟩
      ·by_cases c5:((List.length b:Int)==(1:Int))=true
       ·rw [c5] at h1;refine Ev.bind (a:=true) (bT rfl (by rw [show (List.length (false,a,b,()).2.2.1:Int)=(List.length b:Int) from rfl,c5];exact aV _)) (Ev.bind (bT rfl ?_) (aV _));have f:(if 0<=(0:Int)/\(0:Int)<(List.length b:Int) then some ((cH (t:=(.int .u32)) b (0:Int):Int)==(1:Int)) else none)=some (decide (vl WW b=1)):=h1;exact jW f
       have c6:=Vk.2 c5;rw [c6] at h1;have f:some false=some (decide (vl WW b=1)):=h1;rw [<- QF f];exact Ev.bind (a:=false) (bT rfl (by rw [show (List.length (false,a,b,()).2.2.1:Int)=(List.length b:Int) from rfl,c6];exact aV _)) (Ev.bind (bF rfl (aV _)) (aV _))
      rw [c,Vc];simp [c4,c1,c2,c3]
    have d:((List.length a:Int)==(0:Int))=false:=oK aH ca c4
    by_cases c5:vl WW b=1
    ·refine ⟨true,bF d (Ev.bind (jW h1) (bT (Qb c5) (aV _))),?_⟩;rw [c];have:gI (vl WW a) 1=1:=by unfold P.gI;simp
     simp [c4,c1,c2,c5,this]
    obtain ⟨g,g1,g2⟩:=q_GCD Q2 Q2 ca cb;have h2:=BF g2;refine ⟨decide (gI (vl WW a) (vl WW b)=1),bF d (Ev.bind (jW h1) (bF (Q8 c5) (Ev.bind g1 (Ev.bind (jW h2) (aV _))))),?_⟩;rw [c,Vc];simp [c4,c1,c2,c3]
   rw [i,Q8 c3];exact aV _
  obtain rfl:=i1.2 c1;have:t2=false:=Vk.2 (fun e=>c2 (i2.1 e));subst this;refine ⟨false,Ev.step (fun k=>lA k _ _) (Ev.bind e1 (Ev.bind (a:=true) (bF rfl (Ev.bind e2 (aV _))) (Ev.bind (a:=true) (bT rfl (aV _)) (bT rfl (aV _))))),?_⟩;rw [c];simp;intro h1 h2 h3 h4;exact absurd ⟨h2,h4⟩ c2
 have:t1=false:=Vk.2 (fun e=>c1 (i1.1 e));subst this;refine ⟨false,Ev.step (fun k=>lA k _ _) (Ev.bind e1 (Ev.bind (a:=true) (bT rfl (aV _)) (Ev.bind (a:=true) (bT rfl (aV _)) (bT rfl (aV _))))),?_⟩;rw [c];simp;intro h1 h2 h3 h4;exact absurd ⟨h1,h3⟩ c1
end
def dc (p:Prop):Bool:=@decide p (Classical.propDecidable p)
theorem fZ {p:Prop} (h:p):dc p=true:=@Qb p (Classical.propDecidable p) h
theorem eK {p:Prop} (h:¬ p):dc p=false:=@Q8 p (Classical.propDecidable p) h
theorem dc_iff {p:Prop}:dc p=true↔p:=@decide_eq_true_iff p (Classical.propDecidable p)
theorem EM {p:Prop} {t:Bool} (h:t=true↔p):t=dc p:=by
 cases t with
 | true=>exact (fZ (h.1 rfl)).symm
 | false=>exact (eK (fun hp=>by have:=h.2 hp;cases this)).symm
theorem cE {t:Ty} {l:List t.den} {i:Nat} (h:i<l.length):cH l (i:Int)=l[i]:=by
 simp [cH,h]
theorem fY {i:Nat} (h:i<9223372036854775807):wrap64 ((i:Int)+1)=((i+1:Nat):Int):=by
 rw [cD Q2 Q2];omega
section
variable {v w:bA} {p q:Rat} {K L:Nat}
theorem Bt (N:Nat) (hN:N<=4096) (ha:Arg v):Ev (fun k=>fp k v (N:Int)) (dc (VN N v)):=by
 obtain ⟨t,h1,h2⟩:=DR N hN ha;rw [<- EM h2];exact h1
theorem Ct {N:Nat} (hN:N<=4096) (ha:Arg v):VN N v↔(v.2.1.length<=N/\v.2.2.1.length<=N)/\Vd v:=by
 constructor
 ·rintro ⟨q,h1,h2⟩;exact ⟨iu bC h1 h2,q,h1,oq aH h2 hN⟩
 rintro ⟨⟨h1,h2⟩,q,h3,h4⟩;exact ⟨q,h3,CG aH h3 h1 h2⟩
theorem A9 (ha:Arg v):Ev (fun k=>fX k v) (dc (Vd v)):=by
 obtain ⟨t,h1,h2⟩:=AZ ha;rw [<- EM h2];exact h1
end
theorem pS {n:Nat} {P:Nat->Prop} (hn:P n) (hs:∀ i,i<n->P (i+1)->P i):∀ i,i<=n->P i:=by
 have a:∀ d i,n-i=d->i<=n->P i:=by
  intro d
  induction d with
  | zero =>
   intro i hd hi;have:i=n:=Q2;subst this;exact hn
  | succ d ih=>intro i hd hi;exact hs i Q2 (ih (i+1) Q2 Q2)
 exact fun i hi=>a (n-i) i rfl hi
theorem eJ {α:Type} {l:List α} {i:Nat} (h:i<l.length):l.drop i=l[i] :: l.drop (i+1):=QD h
theorem xR (x y:List Int) (h:x.length<=y.length) (hy:y.length<=9223372036854775807):Ev (fun k=>fm k x y) (cZ x y):=by
 have main:=pS (n:=x.length) (P:=fun i=>aL (fun k m=>fm.l0 k m y x (x.length:Int) (i:Int)) (cZ (x.drop i) (y.drop i))) ?_ ?_ 0 (Qy _)
 ·exact Ev.step (fun k=>Gj k x y) main.diag
 ·rw [V2];exact aL.step (fun k m=>fm.aN k m _ _ _ _) (aL.bF (Q8 Q2) (aL.of (aV _)))
 intro i hi ih;have a:i<y.length:=Q2;have e1:(cH (t:=(.int .i64)) x (i:Int):Int)=x[i]:=cE hi;have e2:(cH (t:=(.int .i64)) y (i:Int):Int)=y[i]:=cE a;rw [eJ hi,eJ a];refine aL.step (fun k m=>fm.aN k m _ _ _ _) (aL.bT (Qb Q2) (aL.iT Q2 (aL.iT Q2 ?_)));rw [e1,e2]
 by_cases c:x[i]=y[i]
 ·have ce:cZ (x[i] :: x.drop (i+1)) (y[i] :: y.drop (i+1))=cZ (x.drop (i+1)) (y.drop (i+1)):=by simp only [cZ,Qk c]
  rw [ce];refine aL.bF (by simp [c]) ?_;rw [fY Q2];exact ih
 refine aL.bT (by simp [c]) (aL.iT Q2 ?_)
 by_cases d:x[i]<y[i]
 ·have ce:cZ (x[i] :: x.drop (i+1)) (y[i] :: y.drop (i+1)) = -1:=by simp only [cZ,Qc c,Qk d]
  rw [ce];exact aL.bT (Qb d) (aL.of (aV _))
 have ce:cZ (x[i] :: x.drop (i+1)) (y[i] :: y.drop (i+1))=1:=by simp only [cZ,Qc c,Qc d]
 rw [ce];exact aL.bF (Q8 d) (aL.of (aV _))
def sE:List Int->Int
 | []=>0
 | x :: l=>x+sE l
theorem uF:∀ a b,sE (a++b)=sE a+sE b
 | [],b=>by simp [sE]
 | x :: a,b=>by rw [List.cons_append,sE,sE,uF a b];omega
theorem oz {l:List Int} {i:Nat} (h:i<l.length):sE (l.take (i+1))=sE (l.take i)+l[i]:=by
 rw [V8 h,uF];simp [sE]
theorem tB {B:Int} (hB:0<=B):∀ {l:List Int},(∀ x∈l,0<=x/\x<=B)->0<=sE l/\sE l<=B*l.length
 | [],_=>by simp [sE]
 | x :: l,h=>by
  have h1:=tB hB (l:=l) (fun y hy=>h y (by simp [hy]));have h2:=h x Q3;have e:B*((x :: l).length:Int)=B*l.length+B:=by simp only [List.length_cons];grind
  simp only [sE];omega
abbrev eh (x:List Int):List Int:=eN (0:Int) 8 x
theorem eH {α:Type} (z:α):∀ (n:Nat) (l:List α),(eN z n l).length=n
 | 0,l=>rfl
 | n+1,[]=>by simp [eN,eH z n]
 | n+1,a :: l=>by simp [eN,eH z n]
theorem cX {α:Type} (z:α):∀ (n:Nat) (l:List α),l.length<=n->eN z n l=l++List.replicate (n-l.length) z
 | 0,[],_=>rfl
 | 0,_ :: _,h=>by simp at h
 | n+1,[],_=>by
  have:=cX z n [] (Qy _);simp only [eN,this,List.nil_append,List.length_nil,Nat.sub_zero];rfl
 | n+1,a :: l,h=>by
  have:=cX z n l (by simpa using h);simp only [eN,this,List.cons_append,List.length_cons,Nat.add_sub_add_right]
theorem HF:∀ n,sE (List.replicate n (0:Int))=0
 | 0=>rfl
 | n+1=>by rw [List.replicate_succ,sE,HF n];rfl
theorem FO {x:List Int} (h:x.length<=8):sE (eh x)=sE x:=by
 rw [eh,cX _ _ _ h,uF,HF];omega
theorem Aq (n m:Nat):∀ x y:List Int,x.length=y.length->cZ (x++List.replicate n 0) (y++List.replicate n 0)=cZ x y
 | [],[],_=>by
  show cZ (List.replicate n 0) (List.replicate n 0)=0;exact vj _
 | [],_ :: _,h=>by simp at h
 | _ :: _,[],h=>by simp at h
 | a :: x,b :: y,h=>by
  simp only [List.cons_append,cZ,Aq n m x y (by simpa using h)]
theorem ET {x y:List Int} (hx:x.length<=8) (h:x.length=y.length):cZ (eh x) (eh y)=cZ x y:=by
 rw [eh,eh,cX _ _ _ hx,cX _ _ _ Q2,<- h];exact Aq _ 0 x y h
theorem mi {e:List Int} (he:e.length=8) {i:Nat} (hi:i<8):uI (0:Int) 8 e (i:Int)=e[i]:=by
 simp only [uI,Int.toNat_natCast,XC hi];rw [Q6,Qh Q2];rfl
theorem C6 (u:Int):∀ (l:List Int) (i:Nat),i<l.length->C7 (0:Int) u l i=l.set i u
 | [],i,h=>by simp at h
 | _ :: l,0,_=>rfl
 | a :: l,i+1,h=>by
  show a :: C7 (0:Int) u l i=a :: l.set i u;rw [C6 u l i (by simpa using h)]
theorem AM {e:List Int} (he:e.length=8) {i:Nat} (hi:i<8) (u:Int):Nn (0:Int) 8 e (i:Int) u=e.set i u:=by
 simp only [Nn,Int.toNat_natCast,XC hi];exact C6 u e i Q2
theorem kZ (e:List Int) (he:e.length=8) (hb:∀ x∈e,0<=x/\x<=1000000):Ev (fun k=>bL k e) (sE e):=by
 have hs:∀ i,0<=sE (e.take i)/\sE (e.take i)<=1000000*8:=fun i=>by
  have:=tB (B:=1000000) Q2 (l:=e.take i) (fun x hx=>hb x (VO hx));have h2:((e.take i).length:Int)<=8:=by rw [Qd];omega
  omega
 have main:=pS (n:=8) (P:=fun i=>aL (fun k m=>bL.l0 k m (sE (e.take i)) e (i:Int)) (sE e)) ?_ ?_ 0 Q2
 ·exact Ev.step (fun k=>nN k e) main.diag
 ·have:e.take 8=e:=Qp Q2;rw [this];exact aL.step (fun k m=>bL.aN k m _ _ _) (aL.bF (Q8 Q2) (aL.of (aV _)))
 intro i hi ih;refine aL.step (fun k m=>bL.aN k m _ _ _) (aL.bT (Qb Q2) (aL.iT Q2 ?_));rw [mi he hi,<- oz Q2,fY Q2];have:=hs (i+1);rw [cD Q2 Q2];exact ih
theorem mN (a b:List Int) (ha:a.length=8) (hb:b.length=8):Ev (fun k=>bJ k a b) (decide (cZ a b>0)):=by
 have main:=pS (n:=8) (P:=fun i=>aL (fun k m=>bJ.l0 k m (i:Int) a b) (decide (cZ (a.drop i) (b.drop i)>0))) ?_ ?_ 0 Q2
 ·exact Ev.step (fun k=>mW k a b) main.diag
 ·rw [VV Q2];exact aL.step (fun k m=>bJ.aN k m _ _ _) (aL.bF (Q8 Q2) (aL.of (aV _)))
 intro i hi ih;have e:i<a.length:=Q2;have f:i<b.length:=Q2;rw [eJ e,eJ f];refine aL.step (fun k m=>bJ.aN k m _ _ _) (aL.bT (Qb Q2) (aL.iT Q2 (aL.iT Q2 ?_)));rw [mi ha hi,mi hb hi]
 by_cases c:a[i]=b[i]
 ·have ce:cZ (a[i] :: a.drop (i+1)) (b[i] :: b.drop (i+1))=cZ (a.drop (i+1)) (b.drop (i+1)):=by simp only [cZ,Qk c]
  rw [ce];refine aL.bF (by simp [c]) ?_;rw [fY Q2];exact ih
 refine aL.bT (by simp [c]) (aL.iT Q2 (aL.iT Q2 ?_));have ce:decide (cZ (a[i] :: a.drop (i+1)) (b[i] :: b.drop (i+1))>0)=decide (a[i]>b[i]):=by
  simp only [cZ,Qc c]
  by_cases d:a[i]<b[i]
  ·rw [Qk d,Q8 Q2,Q8 Q2]
  rw [Qc d,Qb Q2,Qb Q2]
 rw [ce];exact aL.of (aV _)
theorem tk {c:Prop} [Decidable c] (h:¬ c):Ev (fun _=>some (decide c)) false:=by rw [Q8 h];exact aV _
theorem BP {c:Prop} [Decidable c] (h:c):Ev (fun _=>some (decide c)) true:=by rw [Qb h];exact aV _
def ArgM (t:ae):Prop:=t.1.length<=9223372036854775807/\Arg t.2.1
def pP (p:ay):Prop:=p.2.1.length<=9223372036854775807/\∀ t∈p.2.1,ArgM t
structure TermOk (N:Int) (t:ae):Prop where
 len:(t.1.length:Int)=N
 ex:∀ x∈t.1,0<=x/\x<=40
 sum:sE t.1<=40
 co:VN 200 t.2.1
 ne:t.2.1.2.1.length≠0
abbrev cL (p:ay) (i:Nat):ae:=cH (t:=ah) p.2.1 (i:Int)
def tu (p:ay) (i:Nat):Prop:=TermOk p.1 (cL p i)/\(0<i->cZ (cL p (i-1)).1 (cL p i).1>0)
structure fR (p:ay):Prop where
 n0:0<=p.1
 n8:p.1<=8
 zi:p.2.1.length<=4000
 good:∀ i,i<p.2.1.length->tu p i
theorem AF {p:ay} (ha:pP p) {i:Nat} (hi:i<p.2.1.length):ArgM (cL p i):=by
 have:cL p i=p.2.1[i]:=cE hi;rw [this];exact ha.2 _ (Qi _)
theorem DS (v:bA) (N:Nat):Ev (fun k=>nG k v (N:Int)) (decide (v.2.1.length<=N/\v.2.2.1.length<=N)):=by
 by_cases c:v.2.1.length<=N
 ·by_cases d:v.2.2.1.length<=N
  ·rw [Qb ⟨c,d⟩];exact Ev.step (fun k=>qB k v _) (Ev.bind (a:=true) (bT (Qb Q2) (by rw [show decide ((v.2.2.1.length:Int)<=(N:Int))=true from Qb Q2];exact aV _)) (aV _))
  rw [Q8 (fun h=>d h.2)];exact Ev.step (fun k=>qB k v _) (Ev.bind (a:=false) (bT (Qb Q2) (by rw [show decide ((v.2.2.1.length:Int)<=(N:Int))=false from Q8 Q2];exact aV _)) (aV _))
 rw [Q8 (fun h=>c h.1)];exact Ev.step (fun k=>qB k v _) (Ev.bind (a:=false) (bF (Q8 Q2) (aV _)) (aV _))
theorem Bu (v:bA):∃ s,Ev (fun k=>jc k v) s/\((s==(0:Int))=decide (v.2.1.length=0)):=by
 by_cases c:v.2.1.length=0
 ·refine ⟨0,Ev.step (fun k=>mC k v) (bT (by simp [c]) (aV _)),by rw [Qb c];rfl⟩
 have hc:((List.length v.2.1:Int)==(0:Int))=false:=by simp;intro h;exact c (by rw [h];rfl)
 cases hs:v.1 with
 | true=>exact ⟨-1,Ev.step (fun k=>mC k v) (bF hc (bT hs (aV _))),by rw [Q8 c];rfl⟩
 | false=>exact ⟨1,Ev.step (fun k=>mC k v) (bF hc (bF hs (aV _))),by rw [Q8 c];rfl⟩
theorem Kr {N:Nat} {v:bA} (h:VN N v):v.2.1.length<=N/\v.2.2.1.length<=N:=by
 obtain ⟨q,h1,h2⟩:=h;exact iu bC h1 h2
section
variable {p:ay} {i:Nat}
theorem Fj (ha:pP p) (hi:i<p.2.1.length) (hl:(cL p i).1.length<=9223372036854775807) (hp:0<i->(cL p (i-1)).1.length<=(cL p i).1.length) {r:Bool} (hr:(sE (cL p i).1<=40/\(0<i->cZ (cL p (i-1)).1 (cL p i).1>0)/\VN 200 (cL p i).2.1)->aL (fun k m=>bD.l0 k m p.2.1 (p.2.1.length:Int) ((i+1:Nat):Int) p) r) (hf:¬ (sE (cL p i).1<=40/\(0<i->cZ (cL p (i-1)).1 (cL p i).1>0)/\VN 200 (cL p i).2.1)->r=false) :
 aL (fun k g=>(bif decide (sE (cL p i).1>(40:Int)) then some true else (bif decide ((i:Int)>(0:Int)) then if 0<=(wrap64 ((i:Int)-(1:Int)))/\(wrap64 ((i:Int)-(1:Int)))<(List.length p.2.1:Int) then (fm k ((cH (t:=ah) p.2.1 (wrap64 ((i:Int)-(1:Int))):ae).1) (cL p i).1).bind fun (c:Int) =>
  some (decide (c<=(0:Int))) else none else some false).bind fun (j:Bool) =>
  some j).bind fun (d:Bool) =>
  (bif d then some true else (fp k (cL p i).2.1 (200:Int)).bind fun (f:Bool) =>
  some (!f)).bind fun (e:Bool) =>
  bif e then
   some false
  else
   bD.l0 k g p.2.1 (p.2.1.length:Int) (wrap64 ((i:Int)+(1:Int))) p) r:=by
 have b:=ha.1;have hv:Ev (fun k=>fp k (cL p i).2.1 (200:Int)) (dc (VN 200 (cL p i).2.1)):=Bt 200 Q2 (AF ha hi).2
 by_cases c1:sE (cL p i).1>40
 ·rw [hf (fun h=>Q2)];exact aL.bind (a:=true) (bT (Qb c1) (aV _)) (aL.bind (a:=true) (bT rfl (aV _)) (aL.bT rfl (aL.of (aV _))))
 have h2:Ev (fun k=>(bif decide ((i:Int)>(0:Int)) then if 0<=(wrap64 ((i:Int)-(1:Int)))/\(wrap64 ((i:Int)-(1:Int)))<(List.length p.2.1:Int) then (fm k ((cH (t:=ah) p.2.1 (wrap64 ((i:Int)-(1:Int))):ae).1) (cL p i).1).bind fun c=>some (decide (c<=(0:Int))) else none else some false)) (dc (¬ (0<i->cZ (cL p (i-1)).1 (cL p i).1>0))):=by
  by_cases c0:0<i
  ·have e1:wrap64 ((i:Int)-1)=((i-1:Nat):Int):=by rw [cD Q2 Q2];omega
   rw [e1];refine bT (Qb Q2) (iT Q2 (Ev.bind (xR _ _ (hp c0) hl) ?_));have:decide (cZ (cL p (i-1)).1 (cL p i).1<=0)=dc (¬ (0<i->cZ (cL p (i-1)).1 (cL p i).1>0)):=EM (by
    rw [Vc];constructor
    ·intro h h';have:=h' c0;omega
    intro h;apply QK;intro h';exact h (fun _=>Q2))
   rw [<- this];exact aV _
  rw [eK (fun h=>h (fun h'=>absurd h' c0))];exact bF (Q8 Q2) (aV _)
 by_cases c2:(0<i->cZ (cL p (i-1)).1 (cL p i).1>0)
 ·rw [eK (fun h=>h c2)] at h2;refine aL.bind (a:=false) (bF (Q8 c1) (Ev.bind h2 (aV _))) ?_
  by_cases c3:VN 200 (cL p i).2.1
  ·rw [fZ c3] at hv;refine aL.bind (a:=false) (bF rfl (Ev.bind hv (aV _))) (aL.bF rfl ?_);rw [fY Q2];exact hr ⟨Q2,c2,c3⟩
  rw [eK c3] at hv;rw [hf (fun h=>c3 h.2.2)];exact aL.bind (a:=true) (bF rfl (Ev.bind hv (aV _))) (aL.bT rfl (aL.of (aV _)))
 rw [fZ c2] at h2;rw [hf (fun h=>c2 h.2.1)];exact aL.bind (a:=true) (bF (Q8 c1) (Ev.bind h2 (aV _))) (aL.bind (a:=true) (bT rfl (aV _)) (aL.bT rfl (aL.of (aV _))))
theorem Cv (ha:pP p) (h8:p.1<=8) (hi:i<p.2.1.length) (hp:0<i->((cL p (i-1)).1.length:Int)=p.1) {r:Bool} (hr:tu p i->aL (fun k m=>bD.l0 k m p.2.1 (p.2.1.length:Int) ((i+1:Nat):Int) p) r) (hf:¬ tu p i->r=false) :
 aL (fun k m=>bD.l0 k m p.2.1 (p.2.1.length:Int) (i:Int) p) r:=by
 have u:=ha.1;have f:=AF ha hi;refine aL.step (fun k m=>bD.aN k m _ _ _ _) (aL.bT (Qb Q2) (aL.iT Q2 ?_))
 by_cases c1:((cL p i).1.length:Int)=p.1
 ·have b1:((List.length (cL p i).1:Int) != p.1)=false:=by simp [c1]
  have b:Ev (fun k=>nG k (cL p i).2.1 (200:Int)) _:=DS (cL p i).2.1 200
  by_cases c2:(cL p i).2.1.2.1.length<=200/\(cL p i).2.1.2.2.1.length<=200
  ·rw [Qb c2] at b;obtain ⟨s,e,d⟩:=Bu (cL p i).2.1
   by_cases c3:(cL p i).2.1.2.1.length=0
   ·rw [Qb c3] at d;rw [hf (fun h=>h.1.ne c3)];exact aL.bind (a:=false) (bF b1 (Ev.bind b (aV _))) (aL.bind (a:=true) (bF rfl (Ev.bind e (by rw [d];exact aV _))) (aL.bT rfl (aL.of (aV _))))
   rw [Q8 c3] at d;refine aL.bind (a:=false) (bF b1 (Ev.bind b (aV _))) (aL.bind (a:=false) (bF rfl (Ev.bind e (by rw [d];exact aV _))) (aL.bF rfl ?_));have v:(cL p i).1.length<=8:=Q2;have tl:=Fj (r:=r) ha hi f.1 (fun h0=>by have:=hp h0;omega);have q:∀ j,(∀ j' (h:j'<(cL p i).1.length),j'<j->0<=(cL p i).1[j']/\(cL p i).1[j']<=40)->0<=sE ((cL p i).1.take j)/\sE ((cL p i).1.take j)<=320:=fun j hg=>by
    have w:=tB (B:=40) Q2 (l:=(cL p i).1.take j) (fun x hx=>by
     obtain ⟨j',w,rfl⟩:=QL hx;rw [Qd] at w;rw [V6];exact hg j' Q2 Q2)
    have h2:(((cL p i).1.take j).length:Int)<=8:=by rw [Qd];omega
    omega
   have key:=pS (n:=(cL p i).1.length) (P:=fun j=>(∀ j' (h:j'<(cL p i).1.length),j'<j->0<=(cL p i).1[j']/\(cL p i).1[j']<=40)->dV (fun k z y=>bD.l1 k z y (i:Int) (sE ((cL p i).1.take j)) p.2.1 (p.2.1.length:Int) (i:Int) (cL p i).1 ((cL p i).1.length:Int) (j:Int) p (cL p i)) r) ?_ ?_ 0 (Qy _) (fun j' _ h=>Q2)
   ·exact key.diag
   ·intro hg;have o:∀ x∈(cL p i).1,0<=x/\x<=40:=fun x hx=>by
     obtain ⟨j',w,rfl⟩:=QL hx;exact hg j' w w
    rw [Qw];refine dV.step (fun k z y=>bD.eF k z y _ _ _ _ _ _ _ _ _ _) (dV.bF (Q8 Q2) (dV.of ?_));refine tl (fun h=>hr ⟨⟨c1,o,h.1,h.2.2,c3⟩,h.2.1⟩) (fun h=>hf (fun g=>h ⟨g.1.sum,g.2,g.1.co⟩))
   intro j hj ih hg;have e1:(cH (t:=(.int .i64)) (cL p i).1 (j:Int):Int)=(cL p i).1[j]:=cE hj;refine dV.step (fun k z y=>bD.eF k z y _ _ _ _ _ _ _ _ _ _) (dV.bT (Qb Q2) (dV.iT Q2 ?_));rw [e1]
   by_cases g1:0<=(cL p i).1[j]/\(cL p i).1[j]<=40
   ·have b2:=q (j+1) (fun j' w h2=>by
     by_cases c:j'=j
     ·subst c;exact g1
     exact hg j' w Q2)
    have b3:=oz hj;refine dV.bind (a:=false) (bF (Q8 (show ¬ (cL p i).1[j]<0 by omega)) (tk (show ¬ (cL p i).1[j]>40 by omega))) (dV.bF rfl ?_);rw [<- b3,cD Q2 Q2,fY Q2];exact ih (fun j' w h2=>by
     by_cases c:j'=j
     ·subst c;exact g1
     exact hg j' w Q2)
   rw [hf (fun h=>g1 (h.1.ex _ (Qi hj)))];refine dV.bind (a:=true) ?_ (dV.bT rfl (dV.of (aL.of (aV _))))
   by_cases g2:(cL p i).1[j]<0
   ·exact bT (Qb g2) (aV _)
   exact bF (Q8 g2) (BP (show (cL p i).1[j]>40 by omega))
  rw [Q8 c2] at b;rw [hf (fun h=>c2 (Kr h.1.co))];exact aL.bind (a:=true) (bF b1 (Ev.bind b (aV _))) (aL.bind (a:=true) (bT rfl (aV _)) (aL.bT rfl (aL.of (aV _))))
 have b1:((List.length (cL p i).1:Int) != p.1)=true:=by simp [c1]
 rw [hf (fun h=>c1 h.1.len)];exact aL.bind (a:=true) (bT b1 (aV _)) (aL.bind (a:=true) (bT rfl (aV _)) (aL.bT rfl (aL.of (aV _))))
theorem ku (ha:pP p):Ev (fun k=>bD k p) (dc (fR p)):=by
 have d:=ha.1
 by_cases c0:p.1<0
 ·rw [eK (fun h=>by have:=h.n0;omega)];exact Ev.step (fun k=>kv k p) (Ev.bind (a:=true) (bT (Qb c0) (aV _)) (Ev.bind (a:=true) (bT rfl (aV _)) (bT rfl (aV _))))
 by_cases c8:p.1>8
 ·rw [eK (fun h=>by have:=h.n8;omega)];exact Ev.step (fun k=>kv k p) (Ev.bind (a:=true) (bF (Q8 c0) (BP c8)) (Ev.bind (a:=true) (bT rfl (aV _)) (bT rfl (aV _))))
 by_cases c4:p.2.1.length>4000
 ·rw [eK (fun h=>by have:=h.zi;omega)];exact Ev.step (fun k=>kv k p) (Ev.bind (a:=false) (bF (Q8 c0) (tk c8)) (Ev.bind (a:=true) (bF rfl (BP Q2)) (bT rfl (aV _))))
 refine Ev.step (fun k=>kv k p) (Ev.bind (a:=false) (bF (Q8 c0) (tk c8)) (Ev.bind (a:=false) (bF rfl (tk Q2)) (bF rfl (aL.diag (g:=fun k m=>bD.l0 k m p.2.1 (p.2.1.length:Int) (0:Int) p) ?_))));have b:=pS (n:=p.2.1.length) (P:=fun i=>(∀ j,j<i->tu p j)->aL (fun k m=>bD.l0 k m p.2.1 (p.2.1.length:Int) (i:Int) p) (dc (fR p))) ?_ ?_ 0 (Qy _) (fun j h=>Q2)
 ·exact b
 ·intro hg;rw [fZ ⟨Q2,Q2,Q2,hg⟩];exact aL.step (fun k m=>bD.aN k m _ _ _ _) (aL.bF (Q8 Q2) (aL.of (aV _)))
 intro i hi ih hg;refine Cv ha Q2 hi (fun e=>(hg (i-1) Q2).1.len) (fun h=>ih (fun j hj=>?_)) (fun h=>eK (fun hv=>h (hv.good i hi)))
 by_cases c:j=i
 ·rw [c];exact h
 exact hg j Q2
end
theorem Lq {x:List Int} (h:x.length<=8) {j:Nat} (hj:j<x.length):(eh (x.take j)).set j x[j]=eh (x.take (j+1)):=by
 have e1:(x.take j).length=j:=by rw [Qd];omega
 have e2:(x.take (j+1)).length=j+1:=by rw [Qd];omega
 rw [eh,eh,cX _ _ _ Q2,cX _ _ _ Q2,e1,e2,V8 hj];obtain ⟨d,hd⟩:∃ d,8-j=d+1:=⟨8-j-1,Q2⟩;rw [hd,show 8-(j+1)=d by omega,List.replicate_succ,Xy _ _ Q2,e1,XP,Vb];rfl
def Ef (p:ay) (i:Nat):List Int:=match i with
 | 0=>List.replicate 8 (0:Int)
 | i+1=>eh (cL p i).1
theorem oD (v:bA) (N:Nat):Ev (fun k=>dC k v (N:Int)) (decide (v.2.1.length<=N/\v.2.2.1.length<=N)):=Bb v N
section
variable {p:ay} {i:Nat}
theorem Jh (ha:pP p) (h8:p.1<=8) (hi:i<p.2.1.length) (hp:0<i->((cL p (i-1)).1.length:Int)=p.1) {r:Bool} (hr:tu p i->aL (fun k m=>aS.l0 k m p.2.1 (p.2.1.length:Int) ((i+1:Nat):Int) p (Ef p (i+1))) r) (hf:¬ tu p i->r=false) :
 aL (fun k m=>aS.l0 k m p.2.1 (p.2.1.length:Int) (i:Int) p (Ef p i)) r:=by
 have u:=ha.1;have d:=AF ha hi;refine aL.step (fun k m=>aS.aN k m _ _ _ _ _) (aL.bT (Qb Q2) (aL.iT Q2 ?_))
 by_cases c1:((cL p i).1.length:Int)=p.1
 ·have b1:((List.length (cL p i).1:Int) != p.1)=false:=by simp [c1]
  have b:Ev (fun k=>dC k (cL p i).2.1 (200:Int)) _:=oD (cL p i).2.1 200
  by_cases c2:(cL p i).2.1.2.1.length<=200/\(cL p i).2.1.2.2.1.length<=200
  ·rw [Qb c2] at b;have hv:=A9 d.2
   by_cases c3:Vd (cL p i).2.1
   ·rw [fZ c3] at hv;have q:VN 200 (cL p i).2.1:=(Ct Q2 d.2).2 ⟨c2,c3⟩
    by_cases c4:(cL p i).2.1.2.1.length=0
    ·rw [hf (fun h=>h.1.ne c4)];exact aL.bind (a:=false) (bF b1 (Ev.bind b (aV _))) (aL.bind (a:=false) (bF rfl (Ev.bind hv (aV _))) (aL.bind (a:=true) (bF rfl (by rw [show ((List.length (cL p i).2.1.2.1:Int)==(0:Int))=true by simp [c4]];exact aV _)) (aL.bT rfl (aL.of (aV _)))))
    have s:((List.length (cL p i).2.1.2.1:Int)==(0:Int))=false:=by simp;intro h;exact c4 (by rw [h];rfl)
    refine aL.bind (a:=false) (bF b1 (Ev.bind b (aV _))) (aL.bind (a:=false) (bF rfl (Ev.bind hv (aV _))) (aL.bind (a:=false) (bF rfl (by rw [s];exact aV _)) (aL.bF rfl ?_)));have e:(cL p i).1.length<=8:=Q2;have key:=pS (n:=(cL p i).1.length) (P:=fun j=>(∀ j' (h:j'<(cL p i).1.length),j'<j->0<=(cL p i).1[j']/\(cL p i).1[j']<=40)->dV (fun k y w=>aS.l1 k y w (i:Int) p.2.1 (p.2.1.length:Int) (i:Int) (cL p i).1 ((cL p i).1.length:Int) (j:Int) p (Ef p i) (eh ((cL p i).1.take j))) r) ?_ ?_ 0 (Qy _) (fun j' _ h=>Q2)
    ·exact key.diag
    ·intro hg;have f:∀ x∈(cL p i).1,0<=x/\x<=40:=fun x hx=>by
      obtain ⟨j',z,rfl⟩:=QL hx;exact hg j' z z
     rw [Qw];have o:∀ x∈eh (cL p i).1,0<=x/\x<=1000000:=fun x hx=>by
      rw [eh,cX _ _ _ e,QT,XW] at hx;rcases hx with hx | hx
      ·have:=f x hx;omega
      omega
     have ht:=kZ (eh (cL p i).1) (eH _ _ _) o;rw [FO e] at ht;refine dV.step (fun k y w=>aS.eF k y w _ _ _ _ _ _ _ _ _ _) (dV.bF (Q8 Q2) (dV.bind ht (dV.of ?_)))
     by_cases d1:sE (cL p i).1>40
     ·rw [hf (fun h=>by have:=h.1.sum;omega)];exact aL.bind (a:=true) (bT (Qb d1) (aV _)) (aL.bT rfl (aL.of (aV _)))
     have v:Ev (fun k=>(bif decide ((i:Int)>(0:Int)) then (bJ k (Ef p i) (eh (cL p i).1)).bind fun v10=>some (!v10) else some false)) (dc (¬ (0<i->cZ (cL p (i-1)).1 (cL p i).1>0))):=by
      cases i with
      | zero =>
       rw [eK (fun h=>h (fun h'=>absurd h' Q2))];exact bF (Q8 Q2) (aV _)
      | succ i0 =>
       have l:=hp Q2;rw [Xk] at l ⊢;have g:=mN (eh (cL p i0).1) (eh (cL p (i0+1)).1) (eH _ _ _) (eH _ _ _);rw [ET Q2 Q2] at g;have:(!decide (cZ (cL p i0).1 (cL p (i0+1)).1>0))=dc (¬ (0<i0+1->cZ (cL p i0).1 (cL p (i0+1)).1>0)):=EM (by
        rw [Xb,Xn];exact ⟨fun h h'=>h (h' Q2),fun h h'=>h (fun _=>h')⟩)
       rw [<- this];exact bT (Qb Q2) (Ev.bind g (aV _))
     by_cases d2:(0<i->cZ (cL p (i-1)).1 (cL p i).1>0)
     ·rw [eK (fun h=>h d2)] at v;refine aL.bind (a:=false) (bF (Q8 d1) (Ev.bind v (aV _))) (aL.bF rfl ?_);rw [fY Q2];exact hr ⟨⟨c1,f,Q2,q,c4⟩,d2⟩
     rw [fZ d2] at v;rw [hf (fun h=>d2 h.2)];exact aL.bind (a:=true) (bF (Q8 d1) (Ev.bind v (aV _))) (aL.bT rfl (aL.of (aV _)))
    intro j hj ih hg;have e1:(cH (t:=(.int .i64)) (cL p i).1 (j:Int):Int)=(cL p i).1[j]:=cE hj;refine dV.step (fun k y w=>aS.eF k y w _ _ _ _ _ _ _ _ _ _) (dV.bT (Qb Q2) (dV.iT Q2 ?_));rw [e1]
    by_cases g1:0<=(cL p i).1[j]/\(cL p i).1[j]<=40
    ·refine dV.bind (a:=false) (bF (Q8 (show ¬ (cL p i).1[j]<0 by omega)) (tk (show ¬ (cL p i).1[j]>40 by omega))) (dV.bF rfl (dV.iT Q2 ?_));rw [AM (eH _ _ _) Q2,Lq e hj,fY Q2];exact ih (fun j' z v=>by
      by_cases c:j'=j
      ·subst c;exact g1
      exact hg j' z Q2)
    rw [hf (fun h=>g1 (h.1.ex _ (Qi hj)))];refine dV.bind (a:=true) ?_ (dV.bT rfl (dV.of (aL.of (aV _))))
    by_cases g2:(cL p i).1[j]<0
    ·exact bT (Qb g2) (aV _)
    exact bF (Q8 g2) (BP (show (cL p i).1[j]>40 by omega))
   rw [eK c3] at hv;rw [hf (fun h=>c3 ((Ct Q2 d.2).1 h.1.co).2)];exact aL.bind (a:=false) (bF b1 (Ev.bind b (aV _))) (aL.bind (a:=true) (bF rfl (Ev.bind hv (aV _))) (aL.bind (a:=true) (bT rfl (aV _)) (aL.bT rfl (aL.of (aV _)))))
  rw [Q8 c2] at b;rw [hf (fun h=>c2 (Kr h.1.co))];exact aL.bind (a:=true) (bF b1 (Ev.bind b (aV _))) (aL.bind (a:=true) (bT rfl (aV _)) (aL.bind (a:=true) (bT rfl (aV _)) (aL.bT rfl (aL.of (aV _)))))
 have b1:((List.length (cL p i).1:Int) != p.1)=true:=by simp [c1]
 rw [hf (fun h=>c1 h.1.len)];exact aL.bind (a:=true) (bT b1 (aV _)) (aL.bind (a:=true) (bT rfl (aV _)) (aL.bind (a:=true) (bT rfl (aV _)) (aL.bT rfl (aL.of (aV _)))))
theorem mO (ha:pP p):Ev (fun k=>aS k p) (dc (fR p)):=by
 have d:=ha.1
 by_cases c0:p.1<0
 ·rw [eK (fun h=>by have:=h.n0;omega)];exact Ev.step (fun k=>fu k p) (Ev.bind (a:=true) (bT (Qb c0) (aV _)) (Ev.bind (a:=true) (bT rfl (aV _)) (bT rfl (aV _))))
 by_cases c8:p.1>8
 ·rw [eK (fun h=>by have:=h.n8;omega)];exact Ev.step (fun k=>fu k p) (Ev.bind (a:=true) (bF (Q8 c0) (BP c8)) (Ev.bind (a:=true) (bT rfl (aV _)) (bT rfl (aV _))))
 by_cases c4:p.2.1.length>4000
 ·rw [eK (fun h=>by have:=h.zi;omega)];exact Ev.step (fun k=>fu k p) (Ev.bind (a:=false) (bF (Q8 c0) (tk c8)) (Ev.bind (a:=true) (bF rfl (BP Q2)) (bT rfl (aV _))))
 refine Ev.step (fun k=>fu k p) (Ev.bind (a:=false) (bF (Q8 c0) (tk c8)) (Ev.bind (a:=false) (bF rfl (tk Q2)) (bF rfl (aL.diag (g:=fun k m=>aS.l0 k m p.2.1 (p.2.1.length:Int) (0:Int) p (List.replicate 8 (0:Int))) ?_))));have b:=pS (n:=p.2.1.length) (P:=fun i=>(∀ j,j<i->tu p j)->aL (fun k m=>aS.l0 k m p.2.1 (p.2.1.length:Int) (i:Int) p (Ef p i)) (dc (fR p))) ?_ ?_ 0 (Qy _) (fun j h=>Q2)
 ·exact b
 ·intro hg;rw [fZ ⟨Q2,Q2,Q2,hg⟩];exact aL.step (fun k m=>aS.aN k m _ _ _ _ _) (aL.bF (Q8 Q2) (aL.of (aV _)))
 intro i hi ih hg;refine Jh ha Q2 hi (fun e=>(hg (i-1) Q2).1.len) (fun h=>ih (fun j hj=>?_)) (fun h=>eK (fun hv=>h (hv.good i hi)))
 by_cases c:j=i
 ·rw [c];exact h
 exact hg j Q2
end
end Go.Proofs.YtfbgaddecbiimaaGreatDoor.Q
end
section
namespace Go.Proofs.YtfbgaddecbiimaaGreatDoor.Q
open Go.RowKit Go.Proofs.YtfbgaddecbiimaaGreatDoor.V Go.Proofs.YtfbgaddecbiimaaGreatDoor.E
theorem Kc (k:Nat):iy (k+60)=some true:=by
 kernel_rfl
open Go.Proofs.YtfbgaddecbiimaaGreatDoorW.PrintWords Go.Proofs.YtfbgaddecbiimaaGreatDoorW.PrintMore
open Go.Proofs.YtfbgaddecbiimaaGreatDoor.P (Dg Nm vl WW RR bE gI aV jW kL dK aH bC aW cD u64)
theorem Ke:Ev (fun k=>iy k) true:=⟨60,fun k hk=>by
 obtain ⟨j,rfl⟩:∃ j,k=j+60:=⟨k-60,Q2⟩;exact Kc j⟩
abbrev ya:ay:=((0:Int),[],())
theorem DV:Ev (fun k=>gu k ya) true:=Ev.step (fun k=>oN k _) (Ev.bind (a:=true) (bT rfl (aV _)) (aV _))
abbrev three:bA:=(false,[3],[1],())
theorem E3 {y:ay} (h:zk af y):pP y:=by
 obtain ⟨_,⟨h1,h2⟩,_⟩:=h;exact ⟨h1,fun t ht=>⟨(h2 t ht).1.1,OH (h2 t ht).2.1⟩⟩
theorem OA {x:List Int} (h:x.length<=8):kN (List.replicate 8 (0:Int)) x=eh x:=by
 rw [eh,cX _ _ _ h];simp only [kN,QI,QO h,Qw,List.drop_replicate]
def RelT (t u:ae):Prop:=u.1=eh t.1/\∃ q,RB WW t.2.1 q/\RB RR u.2.1 q/\Sz WW 200 q/\Sz RR 800 q
section
variable {p:ay}
theorem HI (ha:pP p) (hv:fR p):∃ r:List ae,Ev (fun k=>bQ k p) r/\r.length=p.2.1.length/\∀ i (h:i<r.length),RelT (cL p i) r[i]:=by
 have b:=hv.zi;have a:=pS (n:=p.2.1.length) (P:=fun i=>∀ acc:List ae,acc.length=i->∃ r:List ae,r.length=p.2.1.length-i/\(∀ j (h:j<r.length),RelT (cL p (i+j)) r[j])/\aL (fun k m=>bQ.l0 k m p.2.1 (p.2.1.length:Int) (i:Int) acc) (acc++r)) ?_ ?_ 0 (Qy _) [] rfl
 ·obtain ⟨r,h1,h2,h3⟩:=a;refine ⟨r,Ev.step (fun k=>qJ k p) h3.diag,Q2,fun i h=>?_⟩;have:=h2 i h
  rwa [QS] at this
 ·intro acc hacc;exact ⟨[],Q3,fun j h=>by simp at h,aL.step (fun k m=>bQ.aN k m _ _ _ _) (aL.bF (Q8 Q2) (by rw [Vq];exact aL.of (aV _)))⟩
 intro i hi ih acc hacc;obtain ⟨⟨c1,c2,c3,c4,c5⟩,_⟩:=hv.good i hi;have h8:(cL p i).1.length<=8:=by have:=hv.n8;omega
 obtain ⟨q,q1,q2⟩:=c4;obtain ⟨v,v1,v2,v3⟩:=Jk q1 q2 Q2;obtain ⟨r,r1,r2,r3⟩:=ih (acc++[(eh (cL p i).1,v,())]) (by simp [hacc]);refine ⟨(eh (cL p i).1,v,()) :: r,by simp only [List.length_cons];omega,fun j h=>?_,?_⟩
 ·cases j with
  | zero=>exact ⟨rfl,q,q1,v2,q2,v3⟩
  | succ j =>
   have:=r2 j (by simpa using h);rw [show i+1+j=i+(j+1) by omega] at this;exact this
 refine aL.step (fun k m=>bQ.aN k m _ _ _ _) (aL.bT (Qb Q2) (aL.iT Q2 (aL.iT Q3 (aL.bind v1 (aL.iT ?_ ?_)))))
 ·simp only [List.length_cons,List.length_nil];omega
 rw [show kN (List.replicate 8 (0:Int)) (cH (t:=ah) p.2.1 (i:Int):ae).1=eh (cL p i).1 from OA h8,fY Q2];rw [show acc++(eh (cL p i).1,v,()) :: r=(acc++[(eh (cL p i).1,v,())])++r by simp];exact r3
theorem xB {r:List ae} (hl:r.length<=9223372036854775807) (h:∀ i (h:i<r.length),r[i].1.length=8/\∀ x∈r[i].1,0<=x/\x<=1000000):∃ d,Ev (fun k=>ba k r) d:=by
 have a:=pS (n:=r.length) (P:=fun i=>∀ x:Int,∃ d,aL (fun k m=>ba.l0 k m x r (r.length:Int) (i:Int)) d) ?_ ?_ 0 (Qy _) (-1)
 ·obtain ⟨d,hd⟩:=a;exact ⟨d,Ev.step (fun k=>jh k r) hd.diag⟩
 ·exact fun x=>⟨x,aL.step (fun k m=>ba.aN k m _ _ _ _) (aL.bF (Q8 Q2) (aL.of (aV _)))⟩
 intro i hi ih x;obtain ⟨d,hd⟩:=ih (mx x (sE r[i].1));have e:(cH (t:=ab) r (i:Int):ae)=r[i]:=cE hi;refine ⟨d,aL.step (fun k m=>ba.aN k m _ _ _ _) (aL.bT (Qb Q2) (aL.iT Q2 ?_))⟩;rw [e];refine aL.bind (kZ _ (h i hi).1 (h i hi).2) ?_;rw [fY Q2];exact hd
theorem Jx {x:List Int} (a:x.length<=8) (h:∀ y∈x,0<=y/\y<=40):∀ y∈eh x,0<=y/\y<=1000000:=fun y hy=>by
 rw [eh,cX _ _ _ a,QT,XW] at hy;rcases hy with hy | hy
 ·have:=h y hy;omega
 omega
structure Cf (p:ay) (a c:Nat):Prop where
 ok:fR p
 zi:p.2.1.length<=a
 short:∀ i,i<p.2.1.length->(cL p i).2.1.2.1.length<=c/\(cL p i).2.1.2.2.1.length<=c
theorem Ba (ha:pP p) (a c:Nat) (b:Int):∃ t,Ev (fun k=>bg k p (a:Int) b (c:Int)) t/\(t=true->Cf p a c):=by
 have o:=ha.1
 by_cases c0:p.1<0
 ·exact ⟨false,Ev.step (fun k=>eI k p _ _ _) (Ev.bind (a:=true) (bT (Qb c0) (aV _)) (Ev.bind (a:=true) (bT rfl (aV _)) (bT rfl (aV _)))),fun h=>by cases h⟩
 by_cases c8:p.1>8
 ·exact ⟨false,Ev.step (fun k=>eI k p _ _ _) (Ev.bind (a:=true) (bF (Q8 c0) (BP c8)) (Ev.bind (a:=true) (bT rfl (aV _)) (bT rfl (aV _)))),fun h=>by cases h⟩
 by_cases c4:p.2.1.length>a
 ·exact ⟨false,Ev.step (fun k=>eI k p _ _ _) (Ev.bind (a:=false) (bF (Q8 c0) (tk c8)) (Ev.bind (a:=true) (bF rfl (BP Q2)) (bT rfl (aV _)))),fun h=>by cases h⟩
 have l:∃ t,Ev (fun k=>(aS k p).bind fun (x:Bool) =>
  (bif x then (bQ k p).bind fun (v:List ae) =>
  (ba k v).bind fun (y:Int) =>
  some (decide (y<=b)) else some false).bind fun (z:Bool) =>
  some z) t/\(t=true->fR p):=by
  by_cases hv:fR p
  ·have q:=mO ha;rw [fZ hv] at q;obtain ⟨r,r1,r2,r3⟩:=HI ha hv;obtain ⟨d,hd⟩:=xB (r:=r) (by have:=hv.zi;omega) (fun i h=>by
    obtain ⟨u,_⟩:=hv.good i Q2;have h8:(cL p i).1.length<=8:=by have:=hv.n8;have:=u.len;omega
    rw [(r3 i h).1];exact ⟨eH _ _ _,Jx h8 u.ex⟩)
   exact ⟨decide (d<=b),Ev.bind q (Ev.bind (bT rfl (Ev.bind r1 (Ev.bind hd (aV _)))) (aV _)),fun _=>hv⟩
  have q:=mO ha;rw [eK hv] at q;exact ⟨false,Ev.bind q (Ev.bind (a:=false) (bF rfl (aV _)) (aV _)),fun h=>by cases h⟩
 obtain ⟨t0,f1,f2⟩:=l;have g:=pS (n:=p.2.1.length) (P:=fun i=>∃ t,aL (fun k m=>bg.l0 k m b (c:Int) p.2.1 (p.2.1.length:Int) (i:Int) p) t/\(t=true->fR p/\∀ j,i<=j->j<p.2.1.length->(cL p j).2.1.2.1.length<=c/\(cL p j).2.1.2.2.1.length<=c)) ?_ ?_ 0 (Qy _)
 ·obtain ⟨t,q,s⟩:=g;refine ⟨t,Ev.step (fun k=>eI k p _ _ _) (Ev.bind (a:=false) (bF (Q8 c0) (tk c8)) (Ev.bind (a:=false) (bF rfl (tk Q2)) (bF rfl q.diag))),fun h=>⟨(s h).1,Q2,fun i hi=>(s h).2 i (Qy _) hi⟩⟩
 ·exact ⟨t0,aL.step (fun k m=>bg.aN k m _ _ _ _ _ _) (aL.bF (Q8 Q2) (aL.of f1)),fun h=>⟨f2 h,fun j q s=>Q2⟩⟩
 intro i hi ⟨t,q,s⟩;have f:Ev (fun k=>dC k (cL p i).2.1 (c:Int)) _:=oD (cL p i).2.1 c
 by_cases d:(cL p i).2.1.2.1.length<=c/\(cL p i).2.1.2.2.1.length<=c
 ·rw [Qb d] at f;refine ⟨t,aL.step (fun k m=>bg.aN k m _ _ _ _ _ _) (aL.bT (Qb Q2) (aL.iT Q2 (aL.bind f (aL.bF rfl ?_)))),fun h=>⟨(s h).1,fun j u w=>?_⟩⟩
  ·rw [fY Q2];exact q
  by_cases e:j=i
  ·rw [e];exact d
  exact (s h).2 j Q2 w
 rw [Q8 d] at f;exact ⟨false,aL.step (fun k m=>bg.aN k m _ _ _ _ _ _) (aL.bT (Qb Q2) (aL.iT Q2 (aL.bind f (aL.bT rfl (aL.of (aV _)))))),fun h=>by cases h⟩
end
section
variable {a b:ay}
def OX (p:ay):Prop:=p.2.1.length<=9223372036854775807/\∀ i,i<p.2.1.length->(cL p i).1.length<=9223372036854775807/\(cL p i).2.1.2.1.length<4611686018427387904/\(cL p i).2.1.2.2.1.length<4611686018427387904
theorem Be (hf:OX a):Ev (fun k=>aI k a b) (dc (a.1=b.1/\a.2.1=b.2.1)):=by
 obtain ⟨p,o⟩:=hf
 by_cases c1:a.1=b.1
 ·by_cases c2:a.2.1.length=b.2.1.length
  ·refine Ev.step (fun k=>gJ k a b) (Ev.bind (a:=false) (bF (by simp [c1]) (by rw [show ((List.length a.2.1:Int) != (List.length b.2.1:Int))=false by simp [c2]];exact aV _)) (bF rfl (aL.diag (g:=fun k m=>aI.l0 k m a.2.1 (a.2.1.length:Int) (0:Int) b) ?_)));have d:∀ i,i<a.2.1.length->cL a i≠cL b i->dc (a.1=b.1/\a.2.1=b.2.1)=false:=fun i hi h=>eK (fun g=>h (by show cH (t:=ah) a.2.1 (i:Int)=cH (t:=ah) b.2.1 (i:Int);rw [g.2]));have f:=pS (n:=a.2.1.length) (P:=fun i=>(∀ j,j<i->cL a j=cL b j)->aL (fun k m=>aI.l0 k m a.2.1 (a.2.1.length:Int) (i:Int) b) (dc (a.1=b.1/\a.2.1=b.2.1))) ?_ ?_ 0 (Qy _) (fun j h=>Q2)
   ·exact f
   ·intro hg;rw [fZ ⟨c1,QP c2 (fun i q r=>by
     have:=hg i q;rw [show cL a i=a.2.1[i] from cE q,show cL b i=b.2.1[i] from cE r] at this;exact this)⟩]
    exact aL.step (fun k m=>aI.aN k m _ _ _ _) (aL.bF (Q8 Q2) (aL.of (aV _)))
   intro i hi ih hg;obtain ⟨f1,f2,f3⟩:=o i hi;refine aL.step (fun k m=>aI.aN k m _ _ _ _) (aL.bT (Qb Q2) (aL.iT Q2 (aL.iT Q2 ?_)))
   by_cases d1:(cL a i).1.length=(cL b i).1.length
   ·have hs:=Dj (cL a i).2.1 (cL b i).2.1 f2 f3
    by_cases d2:(cL a i).2.1=(cL b i).2.1
    ·rw [Qb d2] at hs;refine aL.bind (a:=false) (bF (by simp [d1]) (Ev.bind hs (aV _))) (aL.bF rfl ?_);have key:=pS (n:=(cL a i).1.length) (P:=fun j=>(∀ j' (h:j'<(cL a i).1.length) (h':j'<(cL b i).1.length),j'<j->(cL a i).1[j']=(cL b i).1[j'])->dV (fun k u s=>aI.l1 k u s a.2.1 (a.2.1.length:Int) (i:Int) ((cL a i).1.length:Int) (j:Int) b (cL a i) (cL b i)) (dc (a.1=b.1/\a.2.1=b.2.1))) ?_ ?_ 0 (Qy _) (fun j' _ _ h=>Q2)
     ·exact key.diag
     ·intro hj;have e:(cL a i).1=(cL b i).1:=QP d1 (fun j q r=>hj j q r q);have et:cL a i=cL b i:=YF e (YF d2 rfl);refine dV.step (fun k u s=>aI.eF k u s _ _ _ _ _ _ _ _) (dV.bF (Q8 Q2) (dV.of ?_));rw [fY Q2];exact ih (fun j h=>by
       by_cases c:j=i
       ·rw [c];exact et
       exact hg j Q2)
     intro j hj ihj hgj;have l:j<(cL b i).1.length:=Q2;have e1:(cH (t:=(.int .i64)) (cL a i).1 (j:Int):Int)=(cL a i).1[j]:=cE hj;have e2:(cH (t:=(.int .i64)) (cL b i).1 (j:Int):Int)=(cL b i).1[j]:=cE l;refine dV.step (fun k u s=>aI.eF k u s _ _ _ _ _ _ _ _) (dV.bT (Qb Q2) (dV.iT Q2 (dV.iT Q2 ?_)));rw [e1,e2]
     by_cases g:(cL a i).1[j]=(cL b i).1[j]
     ·refine dV.bF (by simp [g]) ?_;rw [fY Q2];exact ihj (fun j' q r v=>by
       by_cases c:j'=j
       ·subst c;exact g
       exact hgj j' q r Q2)
     rw [d i hi (fun e=>g (by simp only [e]))];exact dV.bT (by simp [g]) (dV.of (aL.of (aV _)))
    rw [Q8 d2] at hs;rw [d i hi (fun e=>d2 (by rw [e]))];exact aL.bind (a:=true) (bF (by simp [d1]) (Ev.bind hs (aV _))) (aL.bT rfl (aL.of (aV _)))
   rw [d i hi (fun e=>d1 (by rw [e]))];exact aL.bind (a:=true) (bT (show (((cL a i).1.length:Int) != ((cL b i).1.length:Int))=true by rw [WS];omega) (aV _)) (aL.bT rfl (aL.of (aV _)))
  rw [eK (fun h=>c2 (by rw [h.2]))];exact Ev.step (fun k=>gJ k a b) (Ev.bind (a:=true) (bF (by simp [c1]) (by rw [show ((List.length a.2.1:Int) != (List.length b.2.1:Int))=true by simp;omega];exact aV _)) (bT rfl (aV _)))
 rw [eK (fun h=>c1 h.1)];exact Ev.step (fun k=>gJ k a b) (Ev.bind (a:=true) (bT (by simp [c1]) (aV _)) (bT rfl (aV _)))
end
abbrev oB (r:List ae) (i:Nat):ae:=cH (t:=ab) r (i:Int)
structure OS (r:List ae) (ij:Nat->bA):Prop where
 zi:r.length<=100000
 len:∀ i,i<r.length->(oB r i).1.length=8
 ne:∀ i j,i<r.length->j<r.length->i≠j->(oB r i).1≠(oB r j).1
 co:∀ i,i<r.length->Ev (fun k=>fw k (oB r i).2.1) (ij i)
def Ck (r:List ae) (ij:Nat->bA) (n i:Nat):ae:=((oB r i).1.take n,ij i,())
def fa (a b:List Int):Prop:=cZ a b>0
theorem Et {a b:List Int} (h:a.length=b.length) (hn:a≠b):fa a b∨fa b a:=by
 have h1:=BZ h hn;have h2:=nY a b h;unfold fa;omega
section
variable {r:List ae} {ij:Nat->bA} {n:Nat}
def OZ (r:List ae) (ch:List Nat) (j:Nat) (b:Int):Prop:=(b = -1/\∀ j',j'<j->j'∈ch)∨∃ b':Nat,b=(b':Int)/\b'<j/\b' ∉ ch/\∀ j',j'<j->j' ∉ ch->j'≠b'->fa (oB r b').1 (oB r j').1
theorem Ov {len:Nat} {ch:List Nat} {j:Nat} (h:j<len):(cH (t:=.bool) ((List.range len).map fun i=>decide (i∈ch)) (j:Int):Bool)=decide (j∈ch):=by
 have:(cH (t:=.bool) ((List.range len).map fun i=>decide (i∈ch)) (j:Int):Bool)=((List.range len).map fun i=>decide (i∈ch))[j]'(by simpa using h):=cE (by simpa using h);rw [this];simp
theorem Mi {len:Nat} {ch:List Nat} {b:Nat} (h:b<len):((List.range len).map fun i=>decide (i∈ch)).set b true=(List.range len).map fun i=>decide (i∈ch++[b]):=by
 apply QP Q3;intro i h1 h2;simp only [VU,Qz,VR,QT,QB]
 by_cases c:b=i
 ·rw [Qk c];simp [c]
 rw [Qc c];simp;intro e;exact absurd e.symm c
theorem xS:∀ (l l':List Nat),l.Nodup->l'.Nodup->(∀ x,x∈l->x∈l')->l.length=l'.length->l.Perm l'
 | [],l',_,_,_,hl=>by
  have:l'=[]:=Wb.1 hl.symm;rw [this]
 | a :: l,l',h,h',hs,hl=>by
  have ha:=hs a Q3;obtain ⟨h1,h2⟩:=List.nodup_cons.1 h;have hp:=List.perm_cons_erase ha;refine (List.Perm.cons a (xS l (l'.erase a) h2 (h'.erase a) (fun x hx=>?_) ?_)).trans hp.symm
  ·have hne:x≠a:=fun e=>h1 (e ▸ hx);exact (List.mem_erase_of_ne hne).2 (hs x (by simp [hx]))
  rw [List.length_erase_of_mem ha,<- hl];simp
theorem II (hr:OS r ij) (ch:List Nat):∀ j,j<=r.length->∃ b,OZ r ch j b
 | 0,_=>⟨-1,.inl ⟨rfl,fun j' h=>Q2⟩⟩
 | j+1,hj=>by
  obtain ⟨b,hb⟩:=II hr ch j Q2;have hjl:j<r.length:=Q2
  by_cases cj:j∈ch
  ·refine ⟨b,?_⟩;rcases hb with ⟨rfl,hall⟩ | ⟨b',rfl,b1,b2,b3⟩
   ·exact .inl ⟨rfl,fun j' h=>by
     by_cases c:j'=j
     ·rw [c];exact cj
     exact hall j' Q2⟩
   exact .inr ⟨b',rfl,Q2,b2,fun j' e a d=>b3 j' (by
    by_cases c:j'=j
    ·exact absurd (by rw [c];exact cj) a
    omega) a d⟩
  rcases hb with ⟨rfl,hall⟩ | ⟨b',rfl,b1,b2,b3⟩
  ·exact ⟨(j:Int),.inr ⟨j,rfl,Q2,cj,fun j' e a d=>absurd (hall j' Q2) a⟩⟩
  have hb':b'<r.length:=Q2;have hlj:=hr.len j hjl;have hlb:=hr.len b' hb';rcases Et (hlj.trans hlb.symm) (hr.ne j b' hjl hb' Q2) with g | g
  ·refine ⟨(j:Int),.inr ⟨j,rfl,Q2,cj,fun j' e a d=>?_⟩⟩
   by_cases c:j'=b'
   ·rw [c];exact g
   exact lX _ _ _ g (b3 j' Q2 a c) (hlj.trans hlb.symm) (hlb.trans (hr.len j' Q2).symm)
  refine ⟨(b':Int),.inr ⟨b',rfl,Q2,b2,fun j' e a d=>?_⟩⟩
  by_cases c:j'=j
  ·rw [c];exact g
  exact b3 j' Q2 a d
theorem MV (hr:OS r ij) (hn:n<=8) (ch:List Nat) (hc:∀ c∈ch,c<r.length) (hnd:ch.Nodup) (hlt:ch.length<r.length) {R:ay}
 (h:∀ b,b<r.length->b ∉ ch->(∀ j',j'<r.length->j' ∉ ch->j'≠b->fa (oB r b).1 (oB r j').1)->aL (fun k m=>aP.l0 k m r (n:Int) (r.length:Int) ((ch.length+1:Nat):Int) ((0:Int),[],()) (n:Int) ((ch++[b]).map (Ck r ij n)) ((List.range r.length).map fun i=>decide (i∈ch++[b]))) R) :
 aL (fun k q=>aP.l1 k k q r (n:Int) (-1:Int) (r.length:Int) (ch.length:Int) r (r.length:Int) (0:Int) ((0:Int),[],()) (n:Int) (ch.map (Ck r ij n)) ((List.range r.length).map fun i=>decide (i∈ch))) R:=by
 have p:=hr.zi;have key:=pS (n:=r.length) (P:=fun j=>∀ b,OZ r ch j b->dV (fun k s q=>aP.l1 k s q r (n:Int) b (r.length:Int) (ch.length:Int) r (r.length:Int) (j:Int) ((0:Int),[],()) (n:Int) (ch.map (Ck r ij n)) ((List.range r.length).map fun i=>decide (i∈ch))) R) ?_ ?_ 0 (Qy _) (-1) (.inl ⟨rfl,fun j' h=>Q2⟩)
 ·exact key.diag
 ·intro b hb;rcases hb with ⟨rfl,hall⟩ | ⟨b',rfl,b1,b2,b3⟩
  ·exfalso;have l:List.range r.length ⊆ ch:=fun i hi=>hall i (Wu.1 hi);have:=(Yj (n:=r.length)).length_le_of_subset l;rw [Xc] at this;omega
  have f:=hr.len b' b1;have ep:eN (0:Int) 8 (oB r b').1=(oB r b').1:=by rw [cX _ _ _ Q2,f];simp
  refine dV.step (fun k s q=>aP.eF k s q _ _ _ _ _ _ _ _ _ _ _ _) (dV.bF (Q8 Q2) (dV.iT (by simp;omega) (dV.iT Q2 (dV.iT Q2 (dV.iT ?_ (dV.iT Q2 (dV.bind (hr.co b' b1) (dV.iT ?_ (dV.of ?_)))))))))
  ·have:(List.take (Int.toNat (n:Int)) (eN (0:Int) 8 (cH (t:=ab) r (b':Int):ae).1)).length<=8:=by rw [Qd,eH];omega
   show (0+_)*8<=_;omega
  ·rw [QZ];simp only [List.length_cons,List.length_nil];omega
  have:=h b' b1 b2 b3;rw [fY Q2];have e1:((([]:List Int)++(List.take (Int.toNat (n:Int)) (eN (0:Int) 8 ((cH (t:=ab) r (b':Int):ae).1))),ij b',()):ae)=Ck r ij n b':=by
   show (([]:List Int)++List.take n (eN (0:Int) 8 (oB r b').1),ij b',())=_;rw [ep];rfl
  rw [e1,Int.toNat_natCast,Mi b1];rw [show ch.map (Ck r ij n)++[Ck r ij n b']=(ch++[b']).map (Ck r ij n) by simp];exact this
 intro j hj ih b hb;refine dV.step (fun k s q=>aP.eF k s q _ _ _ _ _ _ _ _ _ _ _ _) (dV.bT (Qb Q2) (dV.iT Q2 (dV.iT (by simp;omega) ?_)));rw [Ov hj];have KE:OZ r ch (j+1) (j:Int)->dV (fun k s q=>aP.j0 k q s r (n:Int) (j:Int) (r.length:Int) (ch.length:Int) r (r.length:Int) (j:Int) ((0:Int),[],()) (n:Int) (ch.map (Ck r ij n)) ((List.range r.length).map fun i=>decide (i∈ch))) R:=fun g=>by
  show dV (fun k s q=>aP.l1 k s q r (n:Int) (j:Int) (r.length:Int) (ch.length:Int) r (r.length:Int) (wrap64 ((j:Int)+(1:Int))) ((0:Int),[],()) (n:Int) (ch.map (Ck r ij n)) ((List.range r.length).map fun i=>decide (i∈ch))) R;rw [fY Q2];exact ih _ g
 have d:OZ r ch (j+1) b->dV (fun k s q=>aP.j0 k q s r (n:Int) b (r.length:Int) (ch.length:Int) r (r.length:Int) (j:Int) ((0:Int),[],()) (n:Int) (ch.map (Ck r ij n)) ((List.range r.length).map fun i=>decide (i∈ch))) R:=fun g=>by
  show dV (fun k s q=>aP.l1 k s q r (n:Int) b (r.length:Int) (ch.length:Int) r (r.length:Int) (wrap64 ((j:Int)+(1:Int))) ((0:Int),[],()) (n:Int) (ch.map (Ck r ij n)) ((List.range r.length).map fun i=>decide (i∈ch))) R;rw [fY Q2];exact ih _ g
 by_cases cj:j∈ch
 ·rw [Qb cj];refine dV.bind (a:=false) (bF rfl (aV _)) (dV.bF rfl (d ?_));rcases hb with ⟨rfl,hall⟩ | ⟨b',rfl,b1,b2,b3⟩
  ·exact .inl ⟨rfl,fun j' h=>by
    by_cases c:j'=j
    ·rw [c];exact cj
    exact hall j' Q2⟩
  exact .inr ⟨b',rfl,Q2,b2,fun j' w u v=>b3 j' (by
   by_cases c:j'=j
   ·exact absurd (by rw [c];exact cj) u
   omega) u v⟩
 rw [Q8 cj];rcases hb with ⟨rfl,hall⟩ | ⟨b',rfl,b1,b2,b3⟩
 ·refine dV.bind (a:=true) (bT rfl (Ev.bind (a:=true) (bT rfl (aV _)) (aV _))) (dV.bT rfl (KE ?_));exact .inr ⟨j,rfl,Q2,cj,fun j' w u v=>absurd (hall j' Q2) u⟩
 have e:b'<r.length:=Q2;have o:=mN (oB r j).1 (oB r b').1 (hr.len j hj) (hr.len b' e);have hlj:=hr.len j hj;have hlb:=hr.len b' e;have e0:Ev (fun k=>(bif decide ((b':Int)<(0:Int)) then some true else if 0<=(b':Int)/\(b':Int)<(List.length r:Int) then (bJ k ((cH (t:=ab) r (j:Int):ae).1) ((cH (t:=ab) r (b':Int):ae).1)).bind fun x=>some x else none)) (decide (cZ (oB r j).1 (oB r b').1>0)) :=
  bF (Q8 Q2) (iT Q2 (Ev.bind o (aV _)))
 by_cases g:cZ (oB r j).1 (oB r b').1>0
 ·rw [Qb g] at e0;refine dV.bind (a:=true) (bT rfl (Ev.bind e0 (aV _))) (dV.bT rfl (KE (.inr ⟨j,rfl,Q2,cj,fun j' w u v=>?_⟩)))
  by_cases c:j'=b'
  ·rw [c];exact g
  exact lX _ _ _ g (b3 j' Q2 u c) (hlj.trans hlb.symm) (hlb.trans (hr.len j' Q2).symm)
 rw [Q8 g] at e0;refine dV.bind (a:=false) (bT rfl (Ev.bind e0 (aV _))) (dV.bF rfl (d (.inr ⟨b',rfl,Q2,b2,fun j' w u v=>?_⟩)))
 by_cases c:j'=j
 ·rw [c];rcases Et (hlb.trans hlj.symm) (hr.ne b' j e hj Q2) with h | h
  ·exact h
  exact absurd h g
 exact b3 j' Q2 u v
theorem NC (hr:OS r ij) (hn:n<=8):∃ ch:List Nat,ch.Perm (List.range r.length)/\(ch.Pairwise fun a b=>fa (oB r a).1 (oB r b).1)/\Ev (fun k=>aP k r (n:Int)) ((n:Int),ch.map (Ck r ij n),()):=by
 have g:=hr.zi;have d:=pS (n:=r.length) (P:=fun i=>∀ ch:List Nat,ch.length=i->ch.Nodup->(∀ c∈ch,c<r.length)->(ch.Pairwise fun a b=>fa (oB r a).1 (oB r b).1)->(∀ c∈ch,∀ j,j<r.length->j ∉ ch->fa (oB r c).1 (oB r j).1) ->
  ∃ ch':List Nat,ch'.Perm (List.range r.length)/\(ch'.Pairwise fun a b=>fa (oB r a).1 (oB r b).1)/\aL (fun k m=>aP.l0 k m r (n:Int) (r.length:Int) (i:Int) ((0:Int),[],()) (n:Int) (ch.map (Ck r ij n)) ((List.range r.length).map fun i=>decide (i∈ch))) ((n:Int),ch'.map (Ck r ij n),())) ?_ ?_ 0 (Qy _) [] rfl List.nodup_nil (fun c h=>by cases h) .nil (fun c h=>by cases h)
 ·obtain ⟨ch,h1,h2,h3⟩:=d;refine ⟨ch,h1,h2,Ev.step (fun k=>qI k r _) (iT (by unfold maxLen;omega) ?_)⟩;have e:(List.replicate (Int.toNat (List.length r:Int)) (false:Bool))=(List.range r.length).map fun i=>decide (i∈([]:List Nat)):=by
   rw [Int.toNat_natCast];apply QP Q3;intro i h1 h2;simp
  rw [e];exact h3.diag
 ·intro ch h1 h2 h3 h4 h5;refine ⟨ch,?_,h4,aL.step (fun k m=>aP.aN k m _ _ _ _ _ _ _ _) (aL.bF (Q8 Q2) (aL.of (aV _)))⟩;exact xS _ _ h2 Yj (fun c hc=>Wu.2 (h3 c hc)) (by rw [Xc,h1])
 intro i hi ih ch h1 h2 h3 h4 h5;subst h1;have step:∀ b,b<r.length->b ∉ ch->(∀ j',j'<r.length->j' ∉ ch->j'≠b->fa (oB r b).1 (oB r j').1)->∃ ch':List Nat,ch'.Perm (List.range r.length)/\(ch'.Pairwise fun a b=>fa (oB r a).1 (oB r b).1)/\aL (fun k m=>aP.l0 k m r (n:Int) (r.length:Int) ((ch.length+1:Nat):Int) ((0:Int),[],()) (n:Int) ((ch++[b]).map (Ck r ij n)) ((List.range r.length).map fun i=>decide (i∈ch++[b]))) ((n:Int),ch'.map (Ck r ij n),()):=fun b l o p=>by
  refine ih (ch++[b]) Q3 (List.nodup_append.2 ⟨h2,Q3,fun a ha c hc=>by simp at hc;subst hc;exact fun e=>o (e ▸ ha)⟩) (fun c hc=>?_) (Xd.2 ⟨h4,Q3,fun a ha c hc=>by simp at hc;subst hc;exact h5 a ha _ l o⟩) (fun c hc j hj hnj=>?_)
  ·simp only [QT,QB] at hc;rcases hc with hc | rfl
   ·exact h3 c hc
   exact l
  simp only [QT,QB,not_or] at hc hnj;rcases hc with hc | rfl
  ·exact h5 c hc j hj hnj.1
  exact p j hj hnj.1 hnj.2
 have ex:∃ b,b<r.length/\b ∉ ch/\(∀ j',j'<r.length->j' ∉ ch->j'≠b->fa (oB r b).1 (oB r j').1):=by
  obtain ⟨b,hb⟩:=II hr ch r.length (Qn _);rcases hb with ⟨rfl,hall⟩ | ⟨b',rfl,l,o,p⟩
  ·exfalso;have f:List.range r.length ⊆ ch:=fun i hi=>hall i (Wu.1 hi);have:=(Yj (n:=r.length)).length_le_of_subset f;rw [Xc] at this;omega
  exact ⟨b',l,o,p⟩
 obtain ⟨b,l,o,p⟩:=ex;obtain ⟨ch',c1,c2,c3⟩:=step b l o p;refine ⟨ch',c1,c2,aL.step (fun k m=>aP.aN k m _ _ _ _ _ _ _ _) (aL.bT (Qb Q2) (MV hr hn ch h3 h2 hi (fun b' q t s=>?_)))⟩;have e:b'=b:=by
  apply QK;intro hne;have a1:=s b l o (fun e=>hne e.symm);have a2:=p b' q t hne;have:=nY (oB r b).1 (oB r b').1 ((hr.len b l).trans (hr.len b' q).symm);unfold fa at a1 a2;omega
 subst e;exact c3
end
end Go.Proofs.YtfbgaddecbiimaaGreatDoor.Q
end
section
namespace Go.Proofs.YtfbgaddecbiimaaGreatDoor.G
abbrev Ex:=List Int
abbrev Tm:=Ex×Rat
def cY (m:Ex->Rat):List Tm->Rat
 | []=>0
 | t :: l=>t.2*m t.1+cY m l
def dl (e:Ex):Ex->Rat:=fun f=>if f=e then 1 else 0
def co (l:List Tm) (e:Ex):Rat:=cY (dl e) l
def eW (p q:List Tm):Prop:=∀ m,cY m p=cY m q
theorem eW.refl (p:List Tm):eW p p:=fun _=>rfl
theorem eW.symm {p q:List Tm} (h:eW p q):eW q p:=fun m=>(h m).symm
theorem eW.trans {p q r:List Tm} (h:eW p q) (h':eW q r):eW p r:=fun m=>(h m).trans (h' m)
theorem cF (m:Ex->Rat):∀ p q,cY m (p++q)=cY m p+cY m q
 | [],q=>by simp only [List.nil_append,cY];grind
 | t :: p,q=>by
  have h:=cF m p q;simp only [List.cons_append,cY,h];grind
theorem jf (m:Ex->Rat) {p q:List Tm} (h:p.Perm q):cY m p=cY m q:=by
 induction h with
 | nil=>rfl
 | cons t _ ih=>simp only [cY,ih]
 | swap a b l=>simp only [cY];grind
 | trans _ _ h1 h2=>exact h1.trans h2
theorem jB {m m':Ex->Rat}:∀ {p:List Tm},(∀ t∈p,t.2=0∨m t.1=m' t.1)->cY m p=cY m' p
 | [],_=>rfl
 | t :: p,h=>by
  have h1:=jB (p:=p) (fun u hu=>h u (Qa _ hu));simp only [cY,h1];rcases h t (Q7 ..) with e | e
  ·rw [e];grind
  rw [e]
theorem BE (m m':Ex->Rat):∀ p,cY (fun e=>m e+m' e) p=cY m p+cY m' p
 | []=>by simp only [cY];grind
 | t :: p=>by
  have h:=BE m m' p;simp only [cY,h];grind
theorem mD (c:Rat) (m:Ex->Rat):∀ p,cY (fun e=>c*m e) p=c*cY m p
 | []=>by simp only [cY];grind
 | t :: p=>by
  have h:=mD c m p;simp only [cY,h];grind
theorem yn:∀ p,cY (fun _=>0) p=0
 | []=>rfl
 | t :: p=>by
  have h:=yn p;simp only [cY,h];grind
theorem vi (e:Ex):co [] e=0:=rfl
theorem iI (t:Tm) (l:List Tm) (e:Ex):co (t :: l) e=(if t.1=e then t.2 else 0)+co l e:=by
 simp only [co,cY,dl];split<;>grind
theorem J5 (p q:List Tm) (e:Ex):co (p++q) e=co p e+co q e:=cF _ _ _
theorem yL {e:Ex}:∀ {l:List Tm},(∀ t∈l,t.1≠e)->co l e=0
 | [],_=>rfl
 | t :: l,h=>by
  rw [iI,yL (fun u hu=>h u (List.mem_cons_of_mem _ hu)),if_neg (h t (List.mem_cons_self ..))];grind
def neg (l:List Tm):List Tm:=l.map fun t=>(t.1,-t.2)
theorem jn (m:Ex->Rat):∀ l,cY m (neg l) = -cY m l
 | []=>by simp only [neg,List.map_nil,cY];grind
 | t :: l=>by
  have h:=jn m l;simp only [neg] at h;simp only [neg,List.map_cons,cY,h];grind
theorem eW.co {p q:List Tm} (h:eW p q) (e:Ex):co p e=co q e:=h _
def fa:Ex->Ex->Bool
 | a :: l,b :: k=>if a=b then fa l k else decide (a>b)
 | _,_=>false
theorem iA:∀ a,fa a a=false
 | []=>rfl
 | a :: l=>by rw [fa,Qk rfl];exact iA l
theorem fT:∀ {a b c:Ex},fa a b=true->fa b c=true->fa a c=true
 | [],_,_,h,_=>by simp [fa] at h
 | _ :: _,[],_,h,_=>by simp [fa] at h
 | _ :: _,_ :: _,[],_,h=>by simp [fa] at h
 | a :: l,b :: k,c :: j,h,h'=>by
  rw [fa] at h h' ⊢
  by_cases e:a=b
  ·rw [Qk e] at h
   by_cases e':b=c
   ·rw [Qk e'] at h';rw [Qk (e.trans e')];exact fT h h'
   rw [Qc e'] at h';rw [Qc (by rw [e];exact e')];rw [e];exact h'
  rw [Qc e] at h;have h1:a>b:=by simpa using h
  by_cases e':b=c
  ·rw [Qc (by rw [<- e'];exact e)];rw [<- e'];exact h
  rw [Qc e'] at h';have h2:b>c:=by simpa using h'
  rw [Qc Q2];simp;omega
theorem rH {a b:Ex} (h:fa a b=true):fa b a=false:=by
 cases e:fa b a with
 | false=>rfl
 | true=>have:=fT h e;rw [iA] at this;cases this
theorem kh:∀ {a b:Ex},a.length=b.length->fa a b=false->fa b a=false->a=b
 | [],[],_,_,_=>rfl
 | [],_ :: _,h,_,_=>by simp at h
 | _ :: _,[],h,_,_=>by simp at h
 | a :: l,b :: k,h,h1,h2=>by
  rw [fa] at h1 h2
  by_cases e:a=b
  ·rw [Qk e] at h1;rw [Qk e.symm] at h2;rw [e,kh (by simpa using h) h1 h2]
  rw [Qc e] at h1;rw [Qc (fun h=>e h.symm)] at h2;have h3:¬ a>b:=by simpa using h1
  have h4:¬ b>a:=by simpa using h2
  omega
theorem BJ {a b:Ex} (h:fa a b=true):a≠b:=fun e=>by rw [e,iA] at h;cases h
def bj (a b:Ex):Ex:=List.zipWith (· + ·) a b
theorem dD {a b:Ex} (h:a.length=b.length):(bj a b).length=a.length:=by
 simp [bj,h]
theorem rM:∀ {a b c:Ex},a.length=c.length->b.length=c.length->fa a b=true->fa (bj a c) (bj b c)=true
 | [],_,_,_,_,h=>by simp [fa] at h
 | _ :: _,[],_,_,_,h=>by simp [fa] at h
 | _ :: _,_ :: _,[],h,_,_=>by simp at h
 | a :: l,b :: k,c :: j,h1,h2,h=>by
  rw [fa] at h;simp only [bj,List.zipWith_cons_cons];rw [fa]
  by_cases e:a=b
  ·rw [Qk e] at h;rw [Qk (by rw [e])];exact rM (by simpa using h1) (by simpa using h2) h
  rw [Qc e] at h;have:a>b:=by simpa using h
  rw [Qc Q2];simp;omega
theorem fK (a b:Ex):bj a b=bj b a:=by
 simp only [bj];rw [List.zipWith_comm];congr 1;funext x y;exact Xv ..
theorem l7:∀ a b c:Ex,bj (bj a b) c=bj a (bj b c)
 | [],_,_=>by simp [bj]
 | _ :: _,[],_=>by simp [bj]
 | _ :: _,_ :: _,[]=>by simp [bj]
 | a :: l,b :: k,c :: j=>by
  have h:=l7 l k j;simp only [bj] at h;simp only [bj,List.zipWith_cons_cons,h,Int.add_assoc]
theorem yV:∀ {a b c:Ex},a.length=c.length->b.length=c.length->bj a c=bj b c->a=b
 | [],[],_,_,_,_=>rfl
 | [],_ :: _,c,h1,h2,_=>by rw [<- h1] at h2;simp at h2
 | _ :: _,[],c,h1,h2,_=>by rw [<- h2] at h1;simp at h1
 | _ :: _,_ :: _,[],h,_,_=>by simp at h
 | a :: l,b :: k,c :: j,h1,h2,h=>by
  simp only [bj,List.zipWith_cons_cons,W5] at h;have:=yV (a:=l) (b:=k) (c:=j) (by simpa using h1) (by simpa using h2) h.2;rw [this,show a=b by omega]
structure fQ (n:Nat) (l:List Tm):Prop where
 ord:l.Pairwise fun a b=>fa a.1 b.1=true
 nz:∀ t∈l,t.2≠0
 len:∀ t∈l,t.1.length=n
structure eO (n:Nat) (l:List Tm):Prop where
 ne:l.Pairwise fun a b=>a.1≠b.1
 nz:∀ t∈l,t.2≠0
 len:∀ t∈l,t.1.length=n
theorem fQ.dst {n:Nat} {l:List Tm} (h:fQ n l):eO n l:=⟨h.ord.imp BJ,h.nz,h.len⟩
theorem fQ.nil (n:Nat):fQ n []:=⟨.nil,(fun _ h=>by simp at h),(fun _ h=>by simp at h)⟩
theorem eO.nil (n:Nat):eO n []:=⟨.nil,(fun _ h=>by simp at h),(fun _ h=>by simp at h)⟩
theorem fQ.tail {n:Nat} {t:Tm} {l:List Tm} (h:fQ n (t :: l)):fQ n l :=
 ⟨(Qv.1 h.ord).2,(fun u hu=>h.nz u (Qa _ hu)),(fun u hu=>h.len u (Qa _ hu))⟩
theorem eO.tail {n:Nat} {t:Tm} {l:List Tm} (h:eO n (t :: l)):eO n l :=
 ⟨(Qv.1 h.ne).2,(fun u hu=>h.nz u (Qa _ hu)),(fun u hu=>h.len u (Qa _ hu))⟩
theorem eO.gh {n:Nat}:∀ {l:List Tm},eO n l->∀ t∈l,co l t.1=t.2
 | [],_,t,ht=>by simp at ht
 | u :: l,h,t,ht=>by
  rw [iI];rcases Qo.1 ht with e | e
  ·subst e;rw [if_pos rfl,yL (fun v hv=>fun e=>(List.pairwise_cons.1 h.ne).1 v hv e.symm)];grind
  rw [if_neg (fun e'=>(List.pairwise_cons.1 h.ne).1 t e e'),eO.gh h.tail t e];grind
theorem eO.mem_iff {n:Nat} {l:List Tm} (h:eO n l) (t:Tm):t∈l↔co l t.1=t.2/\t.2≠0:=by
 constructor
 ·exact fun ht=>⟨h.gh t ht,h.nz t ht⟩
 intro ⟨h1,h2⟩
 by_cases c:∃ u∈l,u.1=t.1
 ·obtain ⟨u,hu,e⟩:=c;have:=h.gh u hu;rw [e,h1] at this;have:t=u:=YF e.symm this;rw [this];exact hu
 exact absurd (h1.symm.trans (yL (fun u hu e=>c ⟨u,hu,e⟩))) h2
theorem eO.BB {n n':Nat} {p q:List Tm} (hp:eO n p) (hq:eO n' q) (h:∀ e,co p e=co q e) (t:Tm):t∈p↔t∈q:=by
 rw [hp.mem_iff,hq.mem_iff,h]
theorem fQ.uniq {n:Nat}:∀ {p q:List Tm},fQ n p->fQ n q->(∀ e,co p e=co q e)->p=q
 | [],[],_,_,_=>rfl
 | [],u :: q,_,hq,h=>by
  have:=(hq.dst.gh u (Q7 ..));rw [<- h,vi] at this;exact absurd this.symm (hq.nz u (Q7 ..))
 | t :: p,[],hp,_,h=>by
  have:=(hp.dst.gh t (Q7 ..));rw [h,vi] at this;exact absurd this.symm (hp.nz t (Q7 ..))
 | t :: p,u :: q,hp,hq,h=>by
  have m:=fun x=>eO.BB hp.dst hq.dst h x;have hu:t=u:=by
   rcases Qo.1 ((m t).1 (Q7 ..)) with e | e
   ·exact e
   rcases Qo.1 ((m u).2 (Q7 ..)) with e' | e'
   ·exact e'.symm
   have h1:=(Qv.1 hq.ord).1 t e;have h2:=(Qv.1 hp.ord).1 u e';rw [rH h1] at h2;cases h2
  subst hu;rw [fQ.uniq hp.tail hq.tail (fun e=>by
   have:=h e;rw [iI,iI] at this;grind)]
def kU (c:Rat) (p:List Tm):List Tm:=p.map fun t=>(t.1,t.2*c)
theorem jO (m:Ex->Rat) (c:Rat):∀ p,cY m (kU c p)=c*cY m p
 | []=>by simp only [kU,List.map_nil,cY];grind
 | t :: p=>by
  have h:=jO m c p;simp only [kU] at h;simp only [kU,List.map_cons,cY,h];grind
def kB (p:List Tm) (t:Tm):List Tm:=p.map fun u=>(bj u.1 t.1,u.2*t.2)
theorem wL (m:Ex->Rat) (t:Tm):∀ p,cY m (kB p t)=t.2*cY (fun e=>m (bj e t.1)) p
 | []=>by simp only [kB,List.map_nil,cY];grind
 | u :: p=>by
  have h:=wL m t p;simp only [kB] at h;simp only [kB,List.map_cons,cY,h];grind
def prod (p q:List Tm):List Tm:=p.flatMap fun t=>kB q t
theorem dh (m:Ex->Rat) (q:List Tm):∀ p,cY m (prod p q)=cY (fun e=>cY (fun f=>m (bj f e)) q) p
 | []=>rfl
 | t :: p=>by
  have h:=dh m q p;simp only [prod] at h;simp only [prod,V7,cF,cY,h,wL]
theorem eW.kU {p q:List Tm} (h:eW p q) (c:Rat):eW (kU c p) (kU c q):=fun m=>by rw [jO,jO,h m]
theorem eW.prod {p q p' q':List Tm} (h:eW p p') (h':eW q q'):eW (prod p q) (prod p' q'):=fun m=>by
 rw [dh,dh,h];exact congrArg (fun f=>cY f p') (funext fun e=>h' _)
theorem Eb (g:Ex->Ex->Rat):∀ (p q:List Tm),cY (fun e=>cY (fun f=>g e f) q) p=cY (fun f=>cY (fun e=>g e f) p) q
 | [],q=>by simp only [cY];exact (yn q).symm
 | t :: p,q=>by
  have h:=Eb g p q;simp only [cY,h];rw [BE,mD]
theorem zO (p q:List Tm):eW (prod p q) (prod q p):=fun m=>by
 rw [dh,dh,Eb];exact congrArg (fun f=>cY f q) (funext fun e=>congrArg (fun f=>cY f p) (funext fun f=>by rw [fK]))
theorem Ln (p q r:List Tm):eW (prod p (q++r)) (prod p q++prod p r):=fun m=>by
 rw [cF,dh,dh,dh,<- BE];exact congrArg (fun f=>cY f p) (funext fun e=>cF _ _ _)
theorem E5 (p q r:List Tm):eW (prod (p++q) r) (prod p r++prod q r):=fun m=>by
 rw [cF,dh,dh,dh,cF]
theorem Lm (p q:List Tm):eW (prod p (neg q)) (neg (prod p q)):=fun m=>by
 rw [jn,dh,dh];have h:(fun e=>cY (fun f=>m (bj f e)) (neg q))=fun e=>(-1)*cY (fun f=>m (bj f e)) q:=funext fun e=>by rw [jn];grind
 rw [h,mD];grind
def zE (n:Nat):Ex:=List.replicate n 0
def one (n:Nat):List Tm:=[(zE n,1)]
def pw (n:Nat) (p:List Tm):Nat->List Tm
 | 0=>one n
 | k+1=>prod (pw n p k) p
def Len (n:Nat) (p:List Tm):Prop:=∀ t∈p,t.1.length=n
theorem Len.append {n:Nat} {p q:List Tm} (h:Len n p) (h':Len n q):Len n (p++q):=fun t ht=>(QT.1 ht).elim (h t) (h' t)
theorem Len.kU {n:Nat} {p:List Tm} (h:Len n p) (c:Rat):Len n (kU c p):=fun t ht=>by
 obtain ⟨u,hu,rfl⟩:=Qs.1 ht;exact h u hu
theorem Len.neg {n:Nat} {p:List Tm} (h:Len n p):Len n (neg p):=fun t ht=>by
 obtain ⟨u,hu,rfl⟩:=Qs.1 ht;exact h u hu
theorem Len.kB {n:Nat} {p:List Tm} (h:Len n p) {t:Tm} (h':t.1.length=n):Len n (kB p t):=fun v hv=>by
 obtain ⟨u,hu,rfl⟩:=Qs.1 hv;show (bj u.1 t.1).length=n;rw [dD (by rw [h u hu,h']),h u hu]
theorem DD (a:Rat) (k:Nat):∀ j:Nat,a ^ (k+j)=a ^ k*a ^ j
 | 0=>by rw [Nat.add_zero,Rat.pow_zero];grind
 | j+1=>by rw [<- Nat.add_assoc,Rat.pow_succ,Rat.pow_succ,DD a k j];grind
def mv (x:List Rat):Ex->Rat:=fun e=>go x e
where go:List Rat->Ex->Rat
 | a :: x,k :: e=>a ^ k.toNat*go x e
 | _,_=>1
def fk (p q:List Tm):List Tm:=match p,q with
 | [],q=>q
 | p,[]=>p
 | t :: p,u :: q=>if fa t.1 u.1 then t :: fk p (u :: q) else if fa u.1 t.1 then u :: fk (t :: p) q else if t.2+u.2=0 then fk p q else (t.1,t.2+u.2) :: fk p q
termination_by p.length+q.length
theorem rh (p:List Tm):fk p []=p:=by
 cases p<;>rw [fk];simp
theorem qF:∀ (p q:List Tm) (t:Tm),t∈fk p q->(∃ u∈p,u.1=t.1)∨∃ u∈q,u.1=t.1
 | [],q,t,h=>by rw [fk] at h;exact .inr ⟨t,h,rfl⟩
 | a :: p,[],t,h=>by rw [rh] at h;exact .inl ⟨t,h,rfl⟩
 | a :: p,b :: q,t,h=>by
  have L:∀ {x:Tm},(∃ u∈p,u.1=x.1)->∃ u∈a :: p,u.1=x.1:=fun ⟨u,h1,h2⟩=>⟨u,Qa _ h1,h2⟩;have R:∀ {x:Tm},(∃ u∈q,u.1=x.1)->∃ u∈b :: q,u.1=x.1:=fun ⟨u,h1,h2⟩=>⟨u,Qa _ h1,h2⟩;rw [fk] at h;split at h
  ·rcases Qo.1 h with e | e
   ·exact .inl ⟨a,Q7 ..,by rw [e]⟩
   exact (qF p (b :: q) t (by assumption)).imp L id
  split at h
  ·rcases Qo.1 h with e | e
   ·exact .inr ⟨b,Q7 ..,by rw [e]⟩
   exact (qF (a :: p) q t (by assumption)).imp id R
  split at h
  ·exact (qF p q t h).imp L R
  rcases Qo.1 h with e | e
  ·exact .inl ⟨a,Q7 ..,by rw [e]⟩
  exact (qF p q t (by assumption)).imp L R
termination_by p q=>p.length+q.length
theorem oa {n:Nat}:∀ (p q:List Tm),fQ n p->fQ n q->fQ n (fk p q)/\∀ m,cY m (fk p q)=cY m p+cY m q
 | [],q,_,h=>by rw [fk];exact ⟨h,fun m=>by simp only [cY];grind⟩
 | a :: p,[],h,_=>by rw [rh];exact ⟨h,fun m=>by simp only [cY];grind⟩
 | a :: p,b :: q,hp,hq=>by
  have la:=hp.len a (Q7 ..);have lb:=hq.len b (Q7 ..);have ga:=(Qv.1 hp.ord).1;have gb:=(Qv.1 hq.ord).1;have top:∀ {x:Ex} {r s:List Tm},fQ n (fk r s)->(∀ u∈r,fa x u.1=true)->(∀ u∈s,fa x u.1=true)->∀ v∈fk r s,fa x v.1=true:=fun _ h1 h2 v hv=>by
   rcases qF _ _ v hv with ⟨u,hu,e⟩ | ⟨u,hu,e⟩
   ·rw [<- e];exact h1 u hu
   rw [<- e];exact h2 u hu
  rw [fk];split
  ·rename_i c;obtain ⟨h1,h2⟩:=oa p (b :: q) hp.tail hq;refine ⟨⟨List.pairwise_cons.2 ⟨top h1 ga (fun u hu=>(List.mem_cons.1 hu).elim (fun e=>by rw [e];exact c) (fun e=>fT c (gb u e))),h1.ord⟩,?_,?_⟩,fun m=>by simp only [cY,h2];grind⟩
   ·intro t ht;exact (Qo.1 ht).elim (fun e=>by rw [e];exact hp.nz a (Q7 ..)) (h1.nz t)
   intro t ht;exact (Qo.1 ht).elim (fun e=>by rw [e];exact la) (h1.len t)
  rename_i c;split
  ·rename_i c';obtain ⟨h1,h2⟩:=oa (a :: p) q hp hq.tail;refine ⟨⟨List.pairwise_cons.2 ⟨top h1 (fun u hu=>(List.mem_cons.1 hu).elim (fun e=>by rw [e];exact c') (fun e=>fT c' (ga u e))) gb,h1.ord⟩,?_,?_⟩,fun m=>by simp only [cY,h2];grind⟩
   ·intro t ht;exact (Qo.1 ht).elim (fun e=>by rw [e];exact hq.nz b (Q7 ..)) (h1.nz t)
   intro t ht;exact (Qo.1 ht).elim (fun e=>by rw [e];exact lb) (h1.len t)
  rename_i c';have e:=kh (la.trans lb.symm) (by simpa using c) (by simpa using c');obtain ⟨h1,h2⟩:=oa p q hp.tail hq.tail;split
  ·rename_i z;refine ⟨h1,fun m=>?_⟩;simp only [cY,h2,<- e];have:b.2 = -a.2:=by grind
   rw [this];grind
  rename_i z;refine ⟨⟨Qv.2 ⟨top h1 ga (fun u hu=>by rw [e];exact gb u hu),h1.ord⟩,?_,?_⟩,fun m=>?_⟩
  ·intro t ht;exact (Qo.1 ht).elim (fun e=>by rw [e];exact z) (h1.nz t)
  ·intro t ht;exact (Qo.1 ht).elim (fun e=>by rw [e];exact la) (h1.len t)
  simp only [cY,h2,<- e];grind
termination_by p q=>p.length+q.length
theorem BX {α:Type}:∀ {l:List α} {i:Nat} (h:i<l.length),∃ a b,l=a++l[i] :: b/\a.length=i
 | x :: l,0,_=>⟨[],l,rfl,rfl⟩
 | x :: l,i+1,h=>by
  obtain ⟨a,b,h1,h2⟩:=BX (l:=l) (i:=i) (by simpa using h);exact ⟨x :: a,b,by simp only [List.getElem_cons_succ,List.cons_append];rw [<- h1],by simp [h2]⟩
theorem wG {α:Type} (a b:List α) (x y:α):(a++x :: b).set a.length y=a++y :: b:=by
 rw [Xy _ _ (Qn _),XP];rfl
theorem Am {α:Type} (a b:List α) (x d:α):(((a++x :: b).set a.length ((a++x :: b).getD ((a++x :: b).length-1) d)).take ((a++x :: b).length-1)).Perm (a++b):=by
 rcases List.eq_nil_or_concat b with rfl | ⟨b',y,rfl⟩
 ·have e:(a++[x]).length-1=a.length:=by simp
  rw [e,wG,XK,Vq];rfl
 have e:(a++x :: (b'++[y])).length-1=(a++x :: b').length:=Q3;have e1:(a++x :: (b'++[y])).getD ((a++x :: (b'++[y])).length-1) d=y:=by
  rw [e,show a++x :: (b'++[y])=(a++x :: b')++[y] by simp];simp
 have h1:∀ z:α,(a++x :: b').length=(a++z :: b').length:=fun z=>Q3;have e3:(a++y :: (b'++[y])).take ((a++x :: b').length)=a++y :: b':=by
  rw [h1 y,show a++y :: (b'++[y])=(a++y :: b')++[y] by simp];exact XK rfl
 rw [List.concat_eq_append,e1,wG,e,e3];refine List.Perm.append_left a ?_;simpa using (List.perm_append_comm (l₁:=[y]) (l₂:=b'))
def iW (p:List Tm) (e:Ex) (c:Rat):List Tm :=
 if c=0 then p else match p.findIdx? (fun t=>t.1==e) with
  | none=>p++[(e,c)]
  | some i=>if (p.getD i ([],0)).2+c=0 then (p.set i (p.getD (p.length-1) ([],0))).take (p.length-1) else p.set i (e,(p.getD i ([],0)).2+c)
theorem eO.perm {n:Nat} {p q:List Tm} (h:eO n p) (hp:p.Perm q):eO n q :=
 ⟨(hp.pairwise_iff (fun h=>fun e=>h e.symm)).1 h.ne,(fun t ht=>h.nz t (hp.mem_iff.2 ht)),(fun t ht=>h.len t (hp.mem_iff.2 ht))⟩
theorem Js {n:Nat} {p:List Tm} {e:Ex} {c:Rat} (h:eO n p) (he:e.length=n):eO n (iW p e c)/\∀ m,cY m (iW p e c)=cY m p+c*m e:=by
 unfold iW;split
 ·rename_i z;exact ⟨h,fun m=>by rw [z];grind⟩
 rename_i z;split
 ·rename_i hn;have f:∀ t∈p,t.1≠e:=fun t ht hh=>by
   have:=Y4.1 hn t ht;simp [hh] at this
  refine ⟨⟨Xd.2 ⟨h.ne,Q3,fun a ha b hb=>?_⟩,?_,?_⟩,fun m=>?_⟩
  ·rw [QB] at hb;rw [hb];exact f a ha
  ·intro t ht;rcases QT.1 ht with g | g
   ·exact h.nz t g
   rw [QB] at g;rw [g];exact z
  ·intro t ht;rcases QT.1 ht with g | g
   ·exact h.len t g
   rw [QB] at g;rw [g];exact he
  rw [cF];simp only [cY];grind
 rename_i i hs;obtain ⟨hi,hx,_⟩:=WL.1 hs;obtain ⟨a,b,e1,e2⟩:=BX hi;have hg:p.getD i ([],0)=p[i]:=by simp [Q6,hi]
 have d:p[i].1=e:=by simpa using hx
 rw [hg];generalize p[i]=x at *
 subst e1;have lx:cY=cY:=rfl;have hp:(a++x :: b).Perm (x :: (a++b)):=WV;have hd:=h.perm hp;have hl:∀ m,cY m (a++x :: b)=x.2*m e+cY m (a++b):=fun m=>by rw [jf m hp];simp only [cY,d]
 split
 ·rename_i z';have hq:=Am a b x ([],0);rw [e2] at hq;refine ⟨hd.tail.perm hq.symm,fun m=>?_⟩;rw [jf m hq,hl];have:c = -x.2:=by grind
  rw [this];grind
 rename_i z';rw [<- e2,wG];have hp':(a++(e,x.2+c) :: b).Perm ((e,x.2+c) :: (a++b)):=WV;refine ⟨eO.perm ⟨Qv.2 ⟨fun u hu=>?_,hd.tail.ne⟩,fun t ht=>?_,fun t ht=>?_⟩ hp'.symm,fun m=>?_⟩
 ·have:=(Qv.1 hd.ne).1 u hu;rw [d] at this;exact this
 ·exact (Qo.1 ht).elim (fun g=>by rw [g];exact z') (hd.tail.nz t)
 ·exact (Qo.1 ht).elim (fun g=>by rw [g];exact he) (hd.tail.len t)
 rw [jf m hp',hl];simp only [cY];grind
end Go.Proofs.YtfbgaddecbiimaaGreatDoor.G
end
section
namespace Go.Proofs.YtfbgaddecbiimaaGreatDoor.Q
open Go.RowKit Go.Proofs.YtfbgaddecbiimaaGreatDoorW.PrintWords Go.Proofs.YtfbgaddecbiimaaGreatDoorW.PrintMore Go.Proofs.YtfbgaddecbiimaaGreatDoor.V Go.Proofs.YtfbgaddecbiimaaGreatDoor.E
open Go.Proofs.YtfbgaddecbiimaaGreatDoor.P (Dg Nm vl WW RR bE gI aV jW kL dK aH bC aW cJ cD u64)
open Go.Proofs.YtfbgaddecbiimaaGreatDoor.G (Ex Tm cY co eW fQ eO)
theorem JU:∀ {a b:List Int},a.length=b.length->(fa a b↔G.fa a b=true)
 | [],[],_=>by simp [fa,cZ,G.fa]
 | [],_ :: _,h=>by simp at h
 | _ :: _,[],h=>by simp at h
 | a :: x,b :: y,h=>by
  have ih:=JU (a:=x) (b:=y) (by simpa using h);unfold fa at ih ⊢;rw [B0,G.fa]
  by_cases c:a=b
  ·rw [Qk c,<- ih];constructor
   ·rintro (g | g)
    ·omega
    exact g.2
   exact fun g=>.inr ⟨c,g⟩
  rw [Qc c,Vc];constructor
  ·rintro (g | g)
   ·exact g
   exact absurd g.1 c
  exact fun g=>.inl g
structure RelP (n:Nat) (p:ay) (l:List Tm):Prop where
 n_:p.1=(n:Int)
 len:p.2.1.length=l.length
 at_:∀ i (h:i<l.length),(cL p i).1=l[i].1/\RB WW (cL p i).2.1 l[i].2
structure RelR (r:List ae) (l:List Tm) (K:Nat):Prop where
 len:r.length=l.length
 at_:∀ i (h:i<l.length),(oB r i).1=eh l[i].1/\RB RR (oB r i).2.1 l[i].2/\Sz RR K l[i].2
theorem Jj {v:bA} {q:Rat} {K:Nat} (h:RB RR v q) (hs:Sz RR K q) (hK:K<1073741824):∃ r,Ev (fun k=>fw k v) r/\RB WW r q:=Ji h hs hK
theorem gg {x:List Int} (h:x.length<=8):(eh x).take x.length=x:=by
 rw [eh,cX _ _ _ h,List.take_left]
theorem NO {x y:List Int} (hx:x.length<=8) (h:x.length=y.length) (e:eh x=eh y):x=y:=by
 rw [<- gg hx,e,h,gg Q2]
theorem FW {a:ay} {r:List ae} {la lr:List Tm} {n K:Nat} (hn:n<=8) (ha:RelP n a la) (hr:RelR r lr K) (hf:OX a) (hK:K<1073741824) (hlen:lr.length<=100000) (sa:fQ n la) (dr:eO n lr) (he:eW la lr):Ev (fun k=>fW k a r (n:Int)) true:=by
 have ex:∀ i,∃ c:bA,∀ h:i<lr.length,Ev (fun k=>fw k (oB r i).2.1) c/\RB WW c lr[i].2:=fun i=>by
  by_cases h:i<lr.length
  ·obtain ⟨z,h2,h3⟩:=hr.at_ i h;obtain ⟨c,c1,c2⟩:=Jj h2 h3 hK;exact ⟨c,fun _=>⟨c1,c2⟩⟩
  exact ⟨(false,[],[],()),fun h'=>absurd h' h⟩
 obtain ⟨ij,p⟩:=Classical.axiomOfChoice ex;have l8:∀ i (h:i<lr.length),lr[i].1.length=n:=fun i h=>dr.len _ (Qi h);have hT:OS r ij:=by
  refine ⟨by rw [hr.len];exact hlen,fun i h=>?_,fun i j z h2 hne=>?_,fun i h=>(p i (by rw [<- hr.len];exact h)).1⟩
  ·rw [(hr.at_ i (by rw [<- hr.len];exact h)).1];exact eH _ _ _
  have d:i<lr.length:=by rw [<- hr.len];exact z
  have m:j<lr.length:=by rw [<- hr.len];exact h2
  rw [(hr.at_ i d).1,(hr.at_ j m).1];intro e;have e':=NO (by rw [l8 i d];exact hn) ((l8 i d).trans (l8 j m).symm) e;have hp:=VW.1 dr.ne;rcases Nat.lt_or_gt_of_ne hne with g | g
  ·exact hp i j d m g e'
  exact hp j i m d g e'.symm
 obtain ⟨ch,c1,c2,c3⟩:=NC hT hn;have q:∀ c∈ch,c<lr.length:=fun c hc=>by
  have:=Wu.1 (c1.mem_iff.1 hc);rw [hr.len] at this;exact this
 let ls:List Tm:=ch.map fun i=>lr.getD i ([],0)
 have hls:ls.Perm lr:=by
  have z:=c1.map fun i=>lr.getD i ([],0);have h2:(List.range r.length).map (fun i=>lr.getD i ([],0))=lr:=by
   rw [hr.len];apply QP Q3;intro i g1 g2;simp [Q6,g2]
  rw [h2] at z;exact z
 have ss:fQ n ls:=by
  refine ⟨?_,fun t ht=>dr.nz t (hls.mem_iff.1 ht),fun t ht=>dr.len t (hls.mem_iff.1 ht)⟩;rw [VK];refine c2.imp_of_mem (fun {x y} hx hy h=>?_);have f:=q x hx;have o:=q y hy;rw [(hr.at_ x f).1,(hr.at_ y o).1] at h;have e1:lr.getD x ([],0)=lr[x]:=by simp [Q6,f]
  have e2:lr.getD y ([],0)=lr[y]:=by simp [Q6,o]
  rw [e1,e2];unfold fa at h;rw [ET (by rw [l8 x f];exact hn) ((l8 x f).trans (l8 y o).symm)] at h;exact (JU ((l8 x f).trans (l8 y o).symm)).1 h
 have u:la=ls:=fQ.uniq sa ss (fun e=>by
  have z:=he.co e;have h2:co ls e=co lr e:=G.jf _ hls;rw [z,h2])
 have v:la.length=ch.length:=by rw [u];simp [ls]
 have s:a.2.1=ch.map (Ck r ij n):=by
  apply QP (by rw [ha.len,v,QZ]);intro i z h2;have hi:i<la.length:=by rw [<- ha.len];exact z
  have w:i<ch.length:=by rw [<- v];exact hi
  obtain ⟨g1,g2⟩:=ha.at_ i hi;have et:cL a i=a.2.1[i]:=cE z;have hc:=q ch[i] (Qi w);have el:la[i]=lr[ch[i]]:=by
   have:la[i]=ls[i]'(by rw [<- u];exact hi):=by simp only [u]
   rw [this];simp [ls,Q6,hc]
  rw [<- et,Qz];have k1:(cL a i).1=(oB r ch[i]).1.take n:=by
   rw [g1,el,(hr.at_ _ hc).1,<- l8 _ hc,gg (by rw [l8 _ hc];exact hn)]
  have k2:(cL a i).2.1=ij ch[i]:=by
   rw [el] at g2;exact NF aH g2 (p _ hc).2
  exact YF k1 (YF k2 rfl)
 have l:=Be (b:=((n:Int),ch.map (Ck r ij n),())) hf;rw [fZ ⟨ha.n_,s⟩] at l;exact Ev.step (fun k=>kG k a r _) (Ev.bind c3 (Ev.bind l (aV _)))
def kb (e:Int):List Int:=[(shr .i64 e (24:Int)) % 256,(shr .i64 e (16:Int)) % 256,(shr .i64 e (8:Int)) % 256,e % 256]
def wk (x:List Int):List Int:=x.flatMap kb
theorem Ei:∀ x:List Int,(wk x).length=4*x.length
 | []=>rfl
 | e :: x=>by
  have:=Ei x;simp only [wk,V7,Qf,List.length_cons] at this ⊢;simp only [kb,List.length_cons,List.length_nil];omega
theorem Gc (x:List Int) (h:x.length<=8):Ev (fun k=>iH k x) (strOfNums (wk x)):=by
 have e4:wrap64 ((4:Int)*(x.length:Int))=4*(x.length:Int):=cD Q2 Q2;have main:=pS (n:=x.length) (P:=fun i=>aL (fun k m=>iH.l0 k m x (x.length:Int) (i:Int) (wk (x.take i))) (strOfNums (wk x))) ?_ ?_ 0 (Qy _)
 ·refine Ev.step (fun k=>Gd k x) (iT (by rw [e4];unfold maxLen;omega) ?_);exact main.diag
 ·rw [Qw];exact aL.step (fun k m=>iH.aN k m _ _ _ _) (aL.bF (Q8 Q2) (aL.of (aV _)))
 intro i hi ih;have e1:(cH (t:=(.int .i64)) x (i:Int):Int)=x[i]:=cE hi;have hk:=Ei (x.take i);rw [Qd] at hk;refine aL.step (fun k m=>iH.aN k m _ _ _ _) (aL.bT (Qb Q2) (aL.iT Q2 (aL.iT (by simp only [List.length_cons,List.length_nil];omega) ?_)));rw [e1,fY Q2];have:wk (x.take i)++kb x[i]=wk (x.take (i+1)):=by
  simp only [wk];rw [V8 hi,Xf];simp
 have a:=ih;rw [<- this] at a;exact a
theorem key_inj:∀ {x y:List Int},x.length=y.length->(∀ e∈x,0<=e/\e<256)->(∀ e∈y,0<=e/\e<256)->(strOfNums (wk x)).data.toList=(strOfNums (wk y)).data.toList->x=y
 | [],[],_,_,_,_=>rfl
 | [],_ :: _,h,_,_,_=>by simp at h
 | _ :: _,[],h,_,_,_=>by simp at h
 | a :: x,b :: y,h,hx,hy,he=>by
  have ih:=key_inj (x:=x) (y:=y) (by simpa using h) (fun e he=>hx e (by simp [he])) (fun e he=>hy e (by simp [he]));have ha:=hx a Q3;have hb:=hy b Q3;simp only [strOfNums,wk,V7,kb,List.cons_append,List.nil_append,QV,W5] at he ih;obtain ⟨_,_,_,h4,h5⟩:=he;have h6:=congrArg UInt8.toNat h4;simp only [UInt8.toNat_ofNat'] at h6;rw [ih h5,show a=b by omega]
def gB (v:bA):Rat:=Rat.divInt (sg v.1 (vl WW v.2.1)) (vl WW v.2.2.1)
theorem mq {v:bA} {q:Rat} (h:RB WW v q):gB v=q:=by
 have h1:=La h;unfold gB;rw [h.2.1.2.2,h.2.2.2.2];exact h1
def E8 (K:Nat) (v:bA):Prop:=∃ q,RB WW v q/\Sz WW K q
theorem E8.rb {K:Nat} {v:bA} (h:E8 K v):RB WW v (gB v)/\Sz WW K (gB v):=by
 obtain ⟨q,h1,h2⟩:=h;rw [mq h1];exact ⟨h1,h2⟩
theorem E8.mono {K L:Nat} {v:bA} (h:E8 K v) (hk:K<=L):E8 L v:=by
 obtain ⟨q,h1,h2⟩:=h;exact ⟨q,h1,oq aH h2 hk⟩
def fi (t:ae):Tm:=(t.1,gB t.2.1)
def cT (l:List ae):List Tm:=l.map fi
def su (n K:Nat) (t:ae):Prop:=t.1.length=n/\(∀ e∈t.1,0<=e/\e<256)/\E8 K t.2.1
def Km:List (ByteArray×Int)->ByteArray->Option Int
 | [],_=>none
 | x :: l,k=>match k.data.toList==x.1.data.toList with
  | true=>some x.2
  | false=>Km l k
theorem H8:∀ (l:List (ByteArray×Int)) (k:ByteArray),(V.lD l k).map (·.2)=Km l k
 | [],k=>rfl
 | x :: l,k=>by
  have ih:=H8 l k;rw [V.lD,Km];cases k.data.toList==x.1.data.toList with
  | true=>rfl
  | false =>
   dsimp only;rw [Option.map_map,<- ih];rfl
theorem H9 (l:List (ByteArray×Int)) (k:ByteArray):qE l k=match Km l k with
 | some n=>(n,true,())
 | none=>(0,false,()):=by
 rw [<- H8,qE];cases V.lD l k<;>rfl
theorem H7 (k:ByteArray) (n:Int) (k':ByteArray):∀ l:List (ByteArray×Int),Km (V.lC l k n) k'=if k'.data.toList=k.data.toList then some n else Km l k'
 | []=>by
  show (match k'.data.toList==k.data.toList with
   | true=>some n
   | false=>none)=if k'.data.toList=k.data.toList then some n else none
  by_cases c:k'.data.toList=k.data.toList
  ·rw [Qk c,W7.2 c]
  rw [Qc c,QE.2 c]
 | x :: l=>by
  have ih:=H7 k n k' l;rw [V.lC]
  by_cases d:k.data.toList=x.1.data.toList
  ·rw [W7.2 d];dsimp only;rw [Km,Km]
   by_cases c:k'.data.toList=k.data.toList
   ·rw [Qk c,W7.2 c]
   rw [Qc c,QE.2 c,QE.2 (fun e=>c (e.trans d.symm))]
  rw [QE.2 d];dsimp only;rw [Km,Km,ih]
  by_cases c:k'.data.toList=x.1.data.toList
  ·have hk:¬ k'.data.toList=k.data.toList:=fun e=>d (e.symm.trans c);rw [W7.2 c];dsimp only;rw [Qc hk]
  rw [QE.2 c]
abbrev JM (e:List Int):ByteArray:=strOfNums (wk e)
def sw (n:Nat) (mp:List (ByteArray×Int)) (l:List ae):Prop:=∀ e:List Int,e.length=n->(∀ x∈e,0<=x/\x<256)->(∀ j (h:j<l.length),l[j].1=e->Km mp (JM e)=some (j:Int))/\((∀ j (h:j<l.length),l[j].1≠e)->Km mp (JM e)=none)
theorem sw.nil (n:Nat):sw n [] []:=fun e _ _=>⟨fun j h=>by simp at h,fun _=>rfl⟩
theorem sw.add {n:Nat} {mp:List (ByteArray×Int)} {l:List ae} (h:sw n mp l) {t:ae} (b:t.1.length=n) (a:∀ x∈t.1,0<=x/\x<256) (hne:∀ j (h:j<l.length),l[j].1≠t.1):sw n (V.lC mp (JM t.1) (l.length:Int)) (l++[t]):=by
 intro e g1 g2;rw [H7];obtain ⟨a1,a2⟩:=h e g1 g2
 by_cases c:e=t.1
 ·subst c;rw [Qk rfl];refine ⟨fun j hj hje=>?_,fun hn=>absurd Q3 (hn l.length Q3)⟩
  by_cases d:j<l.length
  ·rw [QC d] at hje;exact absurd hje (hne j d)
  have:j=l.length:=by simp at hj;omega
  rw [this]
 rw [Qc (fun he=>c (key_inj (g1.trans b.symm) g2 a he))];refine ⟨fun j hj hje=>?_,fun hn=>a2 (fun j hj=>?_)⟩
 ·by_cases d:j<l.length
  ·rw [QC d] at hje;exact a1 j d hje
  have:j=l.length:=by simp at hj;omega
  subst this;rw [QR (Qn _)] at hje;simp at hje;exact absurd hje.symm c
 have:=hn j (by simp;omega)
 rwa [QC hj] at this
theorem sw.set {n:Nat} {mp:List (ByteArray×Int)} {l:List ae} (h:sw n mp l) (i:Nat) (t:ae) (ht:∀ (hi:i<l.length),t.1=l[i].1):sw n mp (l.set i t):=by
 have e:∀ j (a:j<(l.set i t).length),(l.set i t)[j].1=(l[j]'(by simpa using a)).1:=fun j a=>by
  rw [VU]
  by_cases c:i=j
  ·subst c;rw [Qk rfl];exact ht (by simpa using a)
  rw [Qc c]
 intro x g1 g2;obtain ⟨a1,a2⟩:=h x g1 g2;exact ⟨fun j hj hje=>a1 j (by simpa using hj) (by rw [<- e j hj];exact hje),fun hn=>a2 (fun j hj=>by rw [<- e j (by simpa using hj)];exact hn j (by simpa using hj))⟩
abbrev NeL (l:List ae):Prop:=l.Pairwise fun a b=>a.1≠b.1
def tv (t:ae):Bool:=dc (gB t.2.1≠0)
theorem AQ {q:Rat}:(FL q != (0:Int))=dc (q≠0):=by
 refine EM ?_;rw [bne,qa];simp
theorem eG (t:ae) (l:List ae):cT (t :: l)=fi t :: cT l:=rfl
theorem oo (a b:List ae):cT (a++b)=cT a++cT b:=X6
theorem Ie (m:Ex->Rat):∀ (l:List Tm) (i:Nat) (h:i<l.length) (t:Tm),t.1=l[i].1->cY m (l.set i t)=cY m l+(t.2-l[i].2)*m t.1
 | [],i,h,_,_=>by simp at h
 | u :: l,0,_,t,e=>by
  have e':t.1=u.1:=e;show t.2*m t.1+cY m l=u.2*m u.1+cY m l+(t.2-u.2)*m t.1;rw [e'];grind
 | u :: l,i+1,h,t,e=>by
  have ih:=Ie m l i (by simpa using h) t e;show u.2*m u.1+cY m (l.set i t)=u.2*m u.1+cY m l+(t.2-(l[i]'(by simpa using h)).2)*m t.1;rw [ih];grind
section
variable {n K:Nat}
theorem ER {l:List ae} (hn:n<=8) (hl:l.length<=100000) (hok:∀ t∈l,su n K t) (hne:NeL l) :
 Ev (fun k=>bf.l1 k k l (l.length:Int) (0:Int) ((0:Int),[],()) (n:Int) ([]:List ae)) ((n:Int),iL (l.filter tv),()):=by
 have d:(l.filter tv).Pairwise fun a b=>b.1.length=a.1.length/\a.1≠b.1:=by
  refine (hne.sublist (WT)).imp_of_mem (fun {a b} ha hb h=>⟨?_,h⟩);rw [(hok a (V5.1 ha).1).1,(hok b (V5.1 hb).1).1]
 have hs:C2 (l.filter tv)=some (iL (l.filter tv)):=by
  unfold C2;have h1:NU (l.filter tv)=true:=wI.2 d;have h2:Nat.ble (l.filter tv).length 1000000000=true:=X8 (by have:=Wn tv l;omega);have h3:Nat.ble ((l.filter tv).headD (Ty.zero kK)).1.length 1000000000=true:=by
   apply X8;cases hc:l.filter tv with
   | nil=>show ([]:List Int).length<=_;exact Qy _
   | cons a r =>
    have:a∈l.filter tv:=by rw [hc];simp
    have:=(hok a (V5.1 this).1).1;show a.1.length<=_;omega
  rw [h1,h2,h3]
 have main:=pS (n:=l.length) (P:=fun i=>aL (fun k m=>bf.l1 k m l (l.length:Int) (i:Int) ((0:Int),[],()) (n:Int) ((l.take i).filter tv)) ((n:Int),iL (l.filter tv),())) ?_ ?_ 0 (Qy _)
 ·exact main.diag
 ·rw [Qw];exact aL.step (fun k m=>bf.eF k m _ _ _ _ _ _) (aL.bF (Q8 Q2) (aL.bind (jW hs) (aL.of (aV _))))
 intro i hi ih;have e:(cH (t:=ah) l (i:Int):ae)=l[i]:=cE hi;obtain ⟨o1,o2,o3⟩:=hok l[i] (Qi hi);have g:=qz o3.rb.1;have f:=Wn tv (l.take i);rw [Qd] at f;rw [V8 hi,List.filter_append] at ih;refine aL.step (fun k m=>bf.eF k m _ _ _ _ _ _) (aL.bT (Qb Q2) (aL.iT Q2 ?_));rw [e];refine aL.bind g ?_;have c:∀ acc,aL (fun k m=>bf.l1 k m l (l.length:Int) ((i+1:Nat):Int) ((0:Int),[],()) (n:Int) acc) ((n:Int),iL (l.filter tv),())->aL (fun k m=>bf.j1 k m l (l.length:Int) (i:Int) ((0:Int),[],()) (n:Int) acc) ((n:Int),iL (l.filter tv),()):=fun acc h=>by
  show aL (fun k m=>bf.l1 k m l (l.length:Int) (wrap64 ((i:Int)+(1:Int))) ((0:Int),[],()) (n:Int) acc) _;rw [fY Q2];exact h
 cases hz:tv l[i] with
 | true =>
  rw [show [l[i]].filter tv=[l[i]] by simp [hz]] at ih;refine aL.bT (by rw [AQ];exact hz) (aL.iT (by simp only [List.length_cons,List.length_nil];omega) (c _ ih))
 | false =>
  rw [show [l[i]].filter tv=[] by simp [hz],Vq] at ih;exact aL.bF (by rw [AQ];exact hz) (c _ ih)
theorem EP {l:List ae} (hn:n<=8) (hl:l.length<=100000) (hK:(l.length+1)*(K+1)<=200000000) (hok:∀ t∈l,su n K t) :
 ∃ sl:List ae,sl.length<=l.length/\(∀ t∈sl,su n (l.length*(K+1)) t)/\NeL sl/\(∀ m,cY m (cT sl)=cY m (cT l)) /\
  ∀ R,Ev (fun k=>bf.l1 k k sl (sl.length:Int) (0:Int) ((0:Int),[],()) (n:Int) ([]:List ae)) R->Ev (fun k=>bf k (n:Int) l) R:=by
 have s:=pS (n:=l.length) (P:=fun i=>∀ mp (sl:List ae),sw n mp sl->(∀ t∈sl,su n (i*(K+1)) t)->NeL sl->sl.length<=i->(∀ m,cY m (cT sl)=cY m (cT (l.take i))) ->
  ∃ sl':List ae,sl'.length<=l.length/\(∀ t∈sl',su n (l.length*(K+1)) t)/\NeL sl'/\(∀ m,cY m (cT sl')=cY m (cT l)) /\
   ∀ R,Ev (fun k=>bf.l1 k k sl' (sl'.length:Int) (0:Int) ((0:Int),[],()) (n:Int) ([]:List ae)) R->aL (fun k m=>bf.l0 k m (n:Int) mp l (l.length:Int) (i:Int) ((0:Int),[],()) sl) R) ?_ ?_ 0 (Qy _) [] [] (sw.nil n) (fun t h=>by cases h) .nil (Qy _) (fun m=>rfl)
 ·obtain ⟨sl,h1,h2,h3,h4,h5⟩:=s;exact ⟨sl,h1,h2,h3,h4,fun R hR=>Ev.step (fun k=>xQ k _ _) (h5 R hR).diag⟩
 ·intro mp sl h1 h2 h3 h4 h5;rw [Qw] at h5;exact ⟨sl,h4,h2,h3,h5,fun R hR=>aL.step (fun k m=>bf.aN k m _ _ _ _ _ _ _) (aL.bF (Q8 Q2) (aL.of hR))⟩
 intro i hi ih mp sl h1 h2 h3 h4 h5;have e:(cH (t:=ah) l (i:Int):ae)=l[i]:=cE hi;obtain ⟨o1,o2,o3⟩:=hok l[i] (Qi hi);have o:=Gc l[i].1 Q2;have p:∀ m,cY m (cT (l.take (i+1)))=cY m (cT (l.take i))+gB l[i].2.1*m l[i].1:=fun m=>by
  rw [List.take_succ_eq_append_getElem hi,oo,G.cF];show _+(gB l[i].2.1*m l[i].1+0)=_;grind
 have B:(i+1)*(K+1)=i*(K+1)+(K+1):=Vi _ _;have A:(i+1)*(K+1)<=200000000:=Qu (QJ _ Q2) hK;have f:∀ mp' sl' R,aL (fun k m=>bf.l0 k m (n:Int) mp' l (l.length:Int) ((i+1:Nat):Int) ((0:Int),[],()) sl') R->aL (fun k m=>bf.j0 k m (n:Int) mp' l (l.length:Int) (i:Int) ((0:Int),[],()) sl') R:=fun mp' sl' R h=>by
  show aL (fun k m=>bf.l0 k m (n:Int) mp' l (l.length:Int) (wrap64 ((i:Int)+(1:Int))) ((0:Int),[],()) sl') R;rw [fY Q2];exact h
 obtain ⟨a1,a2⟩:=h1 l[i].1 o1 o2
 by_cases c:∃ j,∃ h:j<sl.length,sl[j].1=l[i].1
 ·obtain ⟨j,hj,q⟩:=c;have hm:qE mp (JM l[i].1)=((j:Int),true,()):=by rw [H9,a1 j hj q]
  obtain ⟨p1,p2,p3⟩:=h2 sl[j] (Qi hj);obtain ⟨v,v1,v2,v3⟩:=xY p3.rb.1 o3.rb.1 p3.rb.2 o3.rb.2 Q2;have ej:(cH (t:=ah) sl (j:Int):ae)=sl[j]:=cE hj;have hv:gB v=gB sl[j].2.1+gB l[i].2.1:=mq v2;have q1:∀ t∈sl.set j (sl[j].1,v,sl[j].2.2),su n ((i+1)*(K+1)) t:=fun t ht=>by
   rcases Wl ht with ht | rfl
   ·obtain ⟨b1,b2,b3⟩:=h2 t ht;exact ⟨b1,b2,b3.mono Q2⟩
   exact ⟨p1,p2,⟨_,v2,oq aH v3 Q2⟩⟩
  have q2:NeL (sl.set j (sl[j].1,v,sl[j].2.2)):=by
   rw [NeL,VW];intro x y hx hy hxy;have hp:=VW.1 h3;have es:∀ z (hz:z<(sl.set j (sl[j].1,v,sl[j].2.2)).length),(sl.set j (sl[j].1,v,sl[j].2.2))[z].1=(sl[z]'(by simpa using hz)).1:=fun z hz=>by
    rw [VU]
    by_cases d:j=z
    ·subst d;rw [Qk rfl]
    rw [Qc d]
   rw [es x hx,es y hy];exact hp x y (by simpa using hx) (by simpa using hy) hxy
  have q3:∀ m,cY m (cT (sl.set j (sl[j].1,v,sl[j].2.2)))=cY m (cT (l.take (i+1))):=fun m=>by
   have u:cT (sl.set j (sl[j].1,v,sl[j].2.2))=(cT sl).set j (sl[j].1,gB v):=by
    simp only [cT,YG];rfl
   have w:j<(cT sl).length:=by simpa [cT] using hj
   have r:(cT sl)[j]=fi sl[j]:=by simp [cT]
   rw [u,Ie m (cT sl) j w _ (by rw [r];rfl),r,h5,p];show _+(gB v-gB sl[j].2.1)*m sl[j].1=_;rw [hv,q];grind
  obtain ⟨sl',g1,g2,g3,g4,g5⟩:=ih mp (sl.set j (sl[j].1,v,sl[j].2.2)) (h1.set j _ (fun _=>rfl)) q1 q2 (by rw [Vg];omega) q3;refine ⟨sl',g1,g2,g3,g4,fun R hR=>?_⟩;refine aL.step (fun k m=>bf.aN k m _ _ _ _ _ _ _) (aL.bT (Qb Q2) (aL.iT Q2 ?_));rw [e];refine aL.bind o ?_;rw [hm];refine aL.bF rfl (aL.iT Q2 ?_);rw [ej];refine aL.bind v1 (aL.iT Q2 (f _ _ _ ?_));rw [Int.toNat_natCast];exact g5 R hR
 have g:∀ j (h:j<sl.length),sl[j].1≠l[i].1:=fun j h he=>c ⟨j,h,he⟩;have hm:qE mp (JM l[i].1)=(0,false,()):=by rw [H9,a2 g]
 have q1:∀ t∈sl++[l[i]],su n ((i+1)*(K+1)) t:=fun t ht=>by
  rw [QT,QB] at ht;rcases ht with ht | rfl
  ·obtain ⟨b1,b2,b3⟩:=h2 t ht;exact ⟨b1,b2,b3.mono Q2⟩
  exact ⟨o1,o2,o3.mono Q2⟩
 have q2:NeL (sl++[l[i]]):=by
  refine Xd.2 ⟨h3,Q3,fun a ha b hb=>?_⟩;rw [QB] at hb;subst hb;obtain ⟨j,hj,rfl⟩:=QL ha;exact g j hj
 have q3:∀ m,cY m (cT (sl++[l[i]]))=cY m (cT (l.take (i+1))):=fun m=>by
  rw [oo,G.cF,h5,p];show _+(gB l[i].2.1*m l[i].1+0)=_;grind
 obtain ⟨sl',g1,g2,g3,g4,g5⟩:=ih (V.lC mp (JM l[i].1) (sl.length:Int)) (sl++[l[i]]) (h1.add o1 o2 g) q1 q2 (by simp;omega) q3;refine ⟨sl',g1,g2,g3,g4,fun R hR=>?_⟩;refine aL.step (fun k m=>bf.aN k m _ _ _ _ _ _ _) (aL.bT (Qb Q2) (aL.iT Q2 ?_));rw [e];refine aL.bind o ?_;rw [hm];exact aL.bT rfl (aL.iT (by simp only [List.length_cons,List.length_nil];omega) (f _ _ _ (g5 R hR)))
theorem yo (m:Ex->Rat):∀ l:List ae,cY m (cT (l.filter tv))=cY m (cT l)
 | []=>rfl
 | t :: l=>by
  have ih:=yo m l;cases h:tv t with
  | true =>
   rw [Vp h,eG,eG];show _*_+_=_*_+_;rw [ih]
  | false =>
   rw [VC (by simp [h]),eG,ih];have hz:gB t.2.1=0:=by
    apply QK;intro hne;rw [tv,fZ hne] at h;cases h
   show _=gB t.2.1*m t.1+_;rw [hz];grind
theorem xP {l:List ae} (hn:n<=8) (hl:l.length<=100000) (hK:(l.length+1)*(K+1)<=200000000) (hok:∀ t∈l,su n K t) :
 ∃ ls:List ae,Ev (fun k=>bf k (n:Int) l) ((n:Int),ls,())/\ls.length<=l.length/\(∀ t∈ls,su n (l.length*(K+1)) t)/\fQ n (cT ls)/\eW (cT ls) (cT l):=by
 obtain ⟨sl,h1,h2,h3,h4,h5⟩:=EP hn hl hK hok;have d:=ER hn Q2 h2 h3;have hp:=lJ (sl.filter tv);have f:=Wn tv sl;have c:∀ t∈iL (sl.filter tv),t∈sl/\tv t=true:=fun t ht=>V5.1 (hp.mem_iff.1 ht);have e:∀ t∈sl.filter tv,t.1.length=n:=fun t ht=>(h2 t (V5.1 ht).1).1;refine ⟨iL (sl.filter tv),h5 _ d,by rw [hp.length_eq];omega,fun t ht=>h2 t (c t ht).1,⟨?_,fun t ht=>?_,fun t ht=>?_⟩,fun m=>?_⟩
 ·have hf:=sG n (sl.filter tv) e (h3.sublist WT);rw [cT,VK];refine hf.imp_of_mem (fun {a b} ha hb h=>?_);exact (JU ((h2 a (c a ha).1).1.trans (h2 b (c b hb).1).1.symm)).1 h
 ·obtain ⟨u,hu,rfl⟩:=Qs.1 ht;exact dc_iff.1 (c u hu).2
 ·obtain ⟨u,hu,rfl⟩:=Qs.1 ht;exact (h2 u (c u hu).1).1
 have h6:cY m (cT (iL (sl.filter tv)))=cY m (cT (sl.filter tv)):=G.jf m (hp.map fi);rw [h6,yo,h4]
end
def EH (n:Nat) (a b:List Int) (j:Nat):List Int:=(List.range n).map fun i=>if i<j then a.getD i 0+b.getD i 0 else 0
theorem EF (n:Nat) (a b:List Int):EH n a b 0=List.replicate n 0:=by
 apply QP (by simp [EH]);intro i h1 h2;simp [EH]
theorem Is {n:Nat} {a b:List Int} {j:Nat} (h:j<n):(EH n a b j).set j (a.getD j 0+b.getD j 0)=EH n a b (j+1):=by
 apply QP (by simp [EH]);intro i h1 h2;simp only [EH,VU,Qz,VR]
 by_cases c:j=i
 ·subst c;rw [Qk rfl,Qk Q2]
 rw [Qc c]
 by_cases d:i<j
 ·rw [Qk d,Qk Q2]
 rw [Qc d,Qc Q2]
theorem EG {n:Nat} {a b:List Int} (ha:a.length=n) (hb:b.length=n):EH n a b n=G.bj a b:=by
 apply QP (by simp [EH,G.bj,ha,hb]);intro i h1 h2;have hi:i<n:=by simpa [EH] using h1
 simp only [EH,Qz,VR,G.bj,WR,Qk hi];rw [Q6,Q6,Qh Q2,Qh Q2];rfl
section
variable {n K L:Nat}
theorem Bj {l:List ae} {t:ae} (hn:n<=8) (hl:l.length<=100000) (hKL:K+L<1000000) (hok:∀ u∈l,su n K u) (ht:su n L t) (hb:∀ u∈l,∀ e∈G.bj u.1 t.1,0<=e/\e<256) :
 ∃ ls:List ae,Ev (fun k=>bX k ((n:Int),l,()) t) ((n:Int),ls,())/\ls.length=l.length/\(∀ u∈ls,su n (K+L) u)/\cT ls=G.kB (cT l) (fi t):=by
 obtain ⟨t1,t2,t3⟩:=ht;have c:=pS (n:=l.length) (P:=fun i=>∀ acc:List ae,acc.length=i->∃ ls:List ae,ls.length=l.length-i/\(∀ u∈ls,su n (K+L) u)/\cT ls=G.kB (cT (l.drop i)) (fi t)/\aL (fun k m=>bX.l0 k m l (l.length:Int) (i:Int) ((n:Int),l,()) t ((0:Int),[],()) (n:Int) acc) ((n:Int),acc++ls,())) ?_ ?_ 0 (Qy _) [] rfl
 ·obtain ⟨ls,h1,h2,h3,h4⟩:=c;exact ⟨ls,Ev.step (fun k=>tP k _ _) h4.diag,Q2,h2,h3⟩
 ·intro acc hacc;exact ⟨[],Q3,(fun u h=>by cases h),by rw [V2];rfl,aL.step (fun k m=>bX.aN k m _ _ _ _ _ _ _ _) (aL.bF (Q8 Q2) (by rw [Vq];exact aL.of (aV _)))⟩
 intro i hi ih acc hacc;have e:(cH (t:=ah) l (i:Int):ae)=l[i]:=cE hi;obtain ⟨o1,o2,o3⟩:=hok l[i] (Qi hi);have d:=hb l[i] (Qi hi);obtain ⟨v,v1,v2,v3⟩:=oJ o3.rb.1 t3.rb.1 o3.rb.2 t3.rb.2 Q2;obtain ⟨ls,h1,h2,h3,h4⟩:=ih (acc++[(G.bj l[i].1 t.1,v,())]) (by simp [hacc]);refine ⟨(G.bj l[i].1 t.1,v,()) :: ls,by simp only [List.length_cons];omega,fun u hu=>?_,?_,?_⟩
 ·rcases Qo.1 hu with rfl | hu
  ·exact ⟨by rw [G.dD (o1.trans t1.symm)];exact o1,d,⟨_,v2,v3⟩⟩
  exact h2 u hu
 ·rw [eJ hi,eG,eG,h3];show _ :: _=(G.bj l[i].1 t.1,gB l[i].2.1*gB t.2.1) :: _;rw [fi,mq v2];rfl
 rw [show acc++(G.bj l[i].1 t.1,v,()) :: ls=(acc++[(G.bj l[i].1 t.1,v,())])++ls by simp];refine aL.step (fun k m=>bX.aN k m _ _ _ _ _ _ _ _) (aL.bT (Qb Q2) (aL.iT Q2 (aL.iT (by show (0:Int)<=(n:Int)/\(n:Int)<=(n:Int)/\8*(n:Int).toNat<=281474976710656/\(n:Int).toNat<=maxLen;unfold maxLen;omega) ?_)));rw [e];show aL (fun k g=>bX.l1 k k g l (l.length:Int) (i:Int) (List.length (List.replicate (Int.toNat (n:Int)) ((0:Int):Int)):Int) (0:Int) ((n:Int),l,()) t ((0:Int),[],()) (n:Int) acc l[i] (List.replicate (Int.toNat (n:Int)) ((0:Int):Int))) _;rw [Int.toNat_natCast,QI,<- EF n l[i].1 t.1];have key:=pS (n:=n) (P:=fun j=>dV (fun k o g=>bX.l1 k o g l (l.length:Int) (i:Int) (n:Int) (j:Int) ((n:Int),l,()) t ((0:Int),[],()) (n:Int) acc l[i] (EH n l[i].1 t.1 j)) ((n:Int),(acc++[(G.bj l[i].1 t.1,v,())])++ls,())) ?_ ?_ 0 (Qy _)
 ·exact key.diag
 ·rw [EG o1 t1];refine dV.step (fun k o g=>bX.eF k o g _ _ _ _ _ _ _ _ _ _ _ _) (dV.bF (Q8 Q2) (dV.bind v1 (dV.iT (by simp only [List.length_cons,List.length_nil];omega) (dV.of ?_))));rw [fY Q2];exact h4
 intro j hj ihj;have f:(EH n l[i].1 t.1 j).length=n:=by simp [EH]
 have e1:(cH (t:=(.int .i64)) l[i].1 (j:Int):Int)=l[i].1.getD j 0:=rfl;have e2:(cH (t:=(.int .i64)) t.1 (j:Int):Int)=t.1.getD j 0:=rfl;have b:j<l[i].1.length:=Q2;have a:j<t.1.length:=Q2;have a1:=o2 _ (Qi b);have a2:=t2 _ (Qi a);have g1:l[i].1.getD j 0=l[i].1[j]:=by rw [Q6,Qh b];rfl
 have g2:t.1.getD j 0=t.1[j]:=by rw [Q6,Qh a];rfl
 refine dV.step (fun k o g=>bX.eF k o g _ _ _ _ _ _ _ _ _ _ _ _) (dV.bT (Qb Q2) (dV.iT Q2 (dV.iT Q2 (dV.iT Q2 ?_))));rw [e1,e2,fY Q2,cD Q2 Q2,Int.toNat_natCast,Is hj];exact ihj
theorem Gg {l l':List ae} (hn:n<=8) (hl:l.length<=60000) (hl':l'.length<=60000) (hll:l.length*l'.length<=60000) (hKL:K+L<3000) (hok:∀ u∈l,su n K u) (hok':∀ u∈l',su n L u) (hb:∀ u∈l',∀ t∈l,∀ e∈G.bj u.1 t.1,0<=e/\e<256) :
 ∃ ls:List ae,Ev (fun k=>gn k ((n:Int),l,()) ((n:Int),l',())) ((n:Int),ls,())/\ls.length<=l.length*l'.length/\(∀ t∈ls,su n (l.length*l'.length*(L+K+1)) t)/\fQ n (cT ls)/\eW (cT ls) (G.prod (cT l) (cT l')):=by
 have a:∀ i,i<=l.length->i*l'.length<=60000:=fun i hi=>Qu (QJ _ hi) hll;have b:=pS (n:=l.length) (P:=fun i=>∀ acc:List ae,acc.length=i*l'.length->(∀ u∈acc,su n (L+K) u)->cT acc=G.prod (cT (l.take i)) (cT l') ->
  ∃ ac:List ae,ac.length=l.length*l'.length/\(∀ u∈ac,su n (L+K) u)/\cT ac=G.prod (cT l) (cT l')/\∀ R,Ev (fun k=>bf k (n:Int) ac) R->aL (fun k m=>gn.l0 k m l (l.length:Int) (i:Int) ((n:Int),l,()) ((n:Int),l',()) ((0:Int),[],()) acc) R) ?_ ?_ 0 (Qy _) [] Q3 (fun u h=>by cases h) rfl
 ·obtain ⟨ac,h1,h2,h3,h4⟩:=b;obtain ⟨ls,g1,g2,g3,g4,g5⟩:=xP hn (by rw [h1];have:=a _ (Qn _);omega) (by
   rw [h1];exact Qu (Y1 (show _<=60001 by have:=a _ (Qn _);omega) (show L+K+1<=3000 by omega)) (by decide)) h2
  rw [h1] at g2 g3;rw [h3] at g5;exact ⟨ls,Ev.step (fun k=>Gi k _ _) (h4 _ g1).diag,g2,g3,g4,g5⟩
 ·intro acc h1 h2 h3;rw [Qw] at h3;exact ⟨acc,h1,h2,h3,fun R hR=>aL.step (fun k m=>gn.aN k m _ _ _ _ _ _ _) (aL.bF (Q8 Q2) (aL.bind hR (aL.of (aV _))))⟩
 intro i hi ih acc h1 h2 h3;have e:(cH (t:=ah) l (i:Int):ae)=l[i]:=cE hi;obtain ⟨ls,s1,s2,s3,s4⟩:=Bj (l:=l') (t:=l[i]) hn Q2 Q2 hok' (hok _ (Qi hi)) (fun u hu=>hb u hu _ (Qi hi));have d:=a (i+1) Q2;have c:(i+1)*l'.length=i*l'.length+l'.length:=Vi _ _;obtain ⟨ac,a1,a2,a3,a4⟩:=ih (acc++ls) (by rw [Qf,h1,s2,c]) (fun u hu=>by
  rcases QT.1 hu with hu | hu
  ·exact h2 u hu
  ·exact s3 u hu) (by
  rw [oo,h3,s4,V8 hi,oo];simp only [G.prod,Xf];show _=_++(G.kB (cT l') (fi l[i])++[]);rw [Vq])
 refine ⟨ac,a1,a2,a3,fun R hR=>?_⟩;refine aL.step (fun k m=>gn.aN k m _ _ _ _ _ _ _) (aL.bT (Qb Q2) (aL.iT Q2 ?_));rw [e];refine aL.bind s1 (aL.iT (by show (acc.length+ls.length)*80<=_;omega) (aL.bF (Q8 (by show ¬ ((acc++ls).length:Int)>65536;rw [Qf];omega) ) ?_));show aL (fun k m=>gn.l0 k m l (l.length:Int) (wrap64 ((i:Int)+(1:Int))) ((n:Int),l,()) ((n:Int),l',()) ((0:Int),[],()) (acc++ls)) R;rw [fY Q2];exact a4 R hR
end
open Go.Proofs.YtfbgaddecbiimaaGreatDoor.G (iW)
def mL (v:bA):Rat:=Rat.divInt (sg v.1 (vl RR v.2.1)) (vl RR v.2.2.1)
theorem rA {v:bA} {q:Rat} (h:RB RR v q):mL v=q:=by
 have h1:=La h;unfold mL;rw [h.2.1.2.2,h.2.2.2.2];exact h1
def CoR (K:Nat) (v:bA):Prop:=∃ q,RB RR v q/\Sz RR K q
theorem CoR.rb {K:Nat} {v:bA} (h:CoR K v):RB RR v (mL v)/\Sz RR K (mL v):=by
 obtain ⟨q,h1,h2⟩:=h;rw [rA h1];exact ⟨h1,h2⟩
theorem CoR.mono {K L:Nat} {v:bA} (h:CoR K v) (hk:K<=L):CoR L v:=by
 obtain ⟨q,h1,h2⟩:=h;exact ⟨q,h1,oq aW h2 hk⟩
def iR (n:Nat) (t:ae):Tm:=(t.1.take n,mL t.2.1)
def cA (n:Nat) (l:List ae):List Tm:=l.map (iR n)
def pg (n K:Nat) (t:ae):Prop:=t.1=eh (t.1.take n)/\(t.1.take n).length=n/\CoR K t.2.1
theorem pg.mono {n K L:Nat} {t:ae} (h:pg n K t) (hk:K<=L):pg n L t:=⟨h.1,h.2.1,h.2.2.mono hk⟩
theorem zR {x:List Int} (h:x.length=8):eh x=x:=by
 rw [eh,cX _ _ _ Q2,h];simp
theorem pg.len {n K:Nat} {t:ae} (h:pg n K t):t.1.length=8:=by rw [h.1];exact eH _ _ _
theorem xA {n K L:Nat} {r:List ae} {e:List Int} {c:bA} {q:Rat} (hn:n<=8) (hr:r.length<=100000) (hK:K+L<1000000) (hok:∀ t∈r,pg n K t) (he:e.length=n) (hc:RB RR c q) (hs:Sz RR L q) :
 ∃ r':List ae,Ev (fun k=>bY k r (eh e) c) r'/\cA n r'=iW (cA n r) e q/\(∀ t∈r',pg n (K+L+1) t)/\r'.length<=r.length+1:=by
 have o:=vF hc
 by_cases c0:q=0
 ·refine ⟨r,Ev.step (fun k=>jX k _ _ _) (Ev.bind o (bT (by rw [qa];exact Qb c0) (aV _))),by rw [iW,Qk c0],fun t ht=>(hok t ht).mono Q2,Q2⟩
 have s:(FL q==(0:Int))=false:=by rw [qa];exact Q8 c0
 have ep:eN (0:Int) 8 (eh e)=eh e:=zR (eH _ _ _);have p:=pS (n:=r.length) (P:=fun i=>(∀ j (h:j<r.length),j<i->r[j].1≠eh e)->∃ r':List ae,aL (fun k m=>bY.l0 k m (r.length:Int) (i:Int) r (eh e) c) r'/\cA n r'=iW (cA n r) e q/\(∀ t∈r',pg n (K+L+1) t)/\r'.length<=r.length+1) ?_ ?_ 0 (Qy _) (fun j _ h=>Q2)
 ·obtain ⟨r',h1,h2,h3,h4⟩:=p;exact ⟨r',Ev.step (fun k=>jX k _ _ _) (Ev.bind o (bF s h1.diag)),h2,h3,h4⟩
 ·intro hno;refine ⟨r++[(eh e,c,())],aL.step (fun k m=>bY.aN k m _ _ _ _ _) (aL.bF (Q8 Q2) (aL.iT (by simp only [List.length_cons,List.length_nil];omega) (aL.of (aV _)))),?_,fun t ht=>?_,Q3⟩
  ·rw [iW,Qc c0];have hf:(cA n r).findIdx? (fun t=>t.1==e)=none:=by
    rw [Y4];intro t ht;obtain ⟨u,hu,rfl⟩:=Qs.1 ht;obtain ⟨j,hj,rfl⟩:=QL hu;rw [QE];intro h;refine hno j hj hj ?_;rw [(hok _ hu).1];exact congrArg eh h
   rw [hf];show (r++[(eh e,c,())]).map (iR n)=r.map (iR n)++[(e,q)];rw [X6];show _++[((eh e).take n,mL c)]=_;rw [rA hc,<- he,gg Q2]
  rcases QT.1 ht with ht | ht
  ·exact (hok t ht).mono Q2
  rw [QB] at ht;subst ht;have h1:(eh e).take n=e:=by rw [<- he,gg Q2]
  exact ⟨by show eh e=eh ((eh e).take n);rw [h1],by show ((eh e).take n).length=n;rw [h1,he],q,hc,oq aW hs Q2⟩
 intro i hi ih hno;have er:(cH (t:=ab) r (i:Int):ae)=r[i]:=cE hi;obtain ⟨o1,o2,o3⟩:=hok r[i] (Qi hi);have y:=(hok r[i] (Qi hi)).len;have f:eN (0:Int) 8 r[i].1=r[i].1:=zR y
 by_cases c1:r[i].1=eh e
 ·obtain ⟨v,v1,v2,v3⟩:=FZ o3.rb.1 hc o3.rb.2 hs Q2;have b:=vF v2;have g:r[i].1.take n=e:=by rw [c1,<- he,gg Q2]
  have hf:(cA n r).findIdx? (fun t=>t.1==e)=some i:=by
   rw [WL];refine ⟨by simpa [cA] using hi,by simp [cA,iR,g],fun j hj=>?_⟩;have l:j<r.length:=Q2;simp only [cA,iR,Qz,W7];intro h;refine hno j l hj ?_;rw [(hok _ (Qi l)).1];exact congrArg eh h
  have hg:((cA n r).getD i ([],0)).2=mL r[i].2.1:=by simp [cA,iR,Q6,hi]
  have w1:wrap64 ((r.length:Int)-1)=((r.length-1:Nat):Int):=by rw [cD Q2 Q2];omega
  by_cases c2:mL r[i].2.1+q=0
  ·rw [c2] at b;have a:r.length-1<r.length:=Q2;have el:(cH (t:=ab) r ((r.length-1:Nat):Int):ae)=r[r.length-1]:=cE a;refine ⟨(r.set i r[r.length-1]).take (r.length-1),?_,?_,fun t ht=>?_,by rw [Qd];omega⟩
   ·refine aL.step (fun k m=>bY.aN k m _ _ _ _ _) (aL.bT (Qb Q2) (aL.iT Q2 ?_));rw [er,f,ep,c1];refine aL.bT Q3 (aL.iT Q2 (aL.bind v1 (aL.bind b (aL.bT rfl ?_))));rw [w1,el,Int.toNat_natCast,Vg,w1,Int.toNat_natCast];exact aL.iT Q2 (aL.iT Q2 (aL.iT Q2 (aL.of (aV _))))
   ·rw [iW,Qc c0,hf];dsimp only;rw [Qk (by rw [hg];exact c2)];have x:(cA n r).length=r.length:=by simp [cA]
    rw [x];have h2:(cA n r).getD (r.length-1) ([],0)=iR n r[r.length-1]:=by simp [cA,Q6,a]
    rw [h2];simp only [cA,List.map_take,YG]
   rcases Wl (VO ht) with h | rfl
   ·exact (hok t h).mono Q2
   exact (hok _ (Qi a)).mono Q2
  have w:(FL (mL r[i].2.1+q)==(0:Int))=false:=by rw [qa];exact Q8 c2
  refine ⟨r.set i (r[i].1,v,r[i].2.2),?_,?_,fun t ht=>?_,by rw [Vg];omega⟩
  ·refine aL.step (fun k m=>bY.aN k m _ _ _ _ _) (aL.bT (Qb Q2) (aL.iT Q2 ?_));rw [er,f,ep];refine aL.bT (by simp [c1]) (aL.iT Q2 (aL.bind v1 (aL.bind b (aL.bF w (aL.iT Q2 ?_)))));rw [Int.toNat_natCast];exact aL.of (aV _)
  ·rw [iW,Qc c0,hf];dsimp only;rw [Qc (by rw [hg];exact c2),hg];simp only [cA,YG];show _=(List.map (iR n) r).set i (e,mL r[i].2.1+q);rw [show iR n (r[i].1,v,r[i].2.2)=(e,mL r[i].2.1+q) by show (r[i].1.take n,mL v)=_;rw [g,rA v2]]
  rcases Wl ht with h | rfl
  ·exact (hok t h).mono Q2
  exact ⟨o1,o2,_,v2,v3⟩
 obtain ⟨r',h1,h2,h3,h4⟩:=ih (fun j hj hji=>by
  by_cases d:j=i
  ·subst d;exact c1
  exact hno j hj Q2)
 refine ⟨r',aL.step (fun k m=>bY.aN k m _ _ _ _ _) (aL.bT (Qb Q2) (aL.iT Q2 ?_)),h2,h3,h4⟩;rw [er,f,ep];refine aL.bF (by simp [c1]) ?_;rw [fY Q2];exact h1
def Cp (a b:List Int) (j:Nat):List Int:=(List.range 8).map fun i=>if i<j then a.getD i 0+b.getD i 0 else a.getD i 0
theorem L9 {a b:List Int} (ha:a.length=8):Cp a b 0=a:=by
 apply QP (by simp [Cp,ha]);intro i h1 h2;simp [Cp,Q6,Qh h2]
theorem It (a b:List Int) (j:Nat):(Cp a b j).length=8:=by simp [Cp]
theorem Ol {a b:List Int} {j:Nat} (h:j<(Cp a b j).length):(Cp a b j)[j]=a.getD j 0:=by simp [Cp]
theorem Oj {a b:List Int} {j:Nat}:(Cp a b j).set j (a.getD j 0+b.getD j 0)=Cp a b (j+1):=by
 apply QP (by simp [Cp]);intro i h1 h2;simp only [Cp,VU,Qz,VR]
 by_cases c:j=i
 ·subst c;rw [Qk rfl,Qk Q2]
 rw [Qc c]
 by_cases d:i<j
 ·rw [Qk d,Qk Q2]
 rw [Qc d,Qc Q2]
theorem Ma {a b:List Int} (ha:a.length=8) (hb:b.length=8):Cp a b 8=G.bj a b:=by
 apply QP (by simp [Cp,G.bj,ha,hb]);intro i h1 h2;have hi:i<8:=by simpa [Cp] using h1
 simp only [Cp,Qz,VR,G.bj,WR,Qk hi];rw [Q6,Q6,Qh Q2,Qh Q2];rfl
theorem Jz {x y:List Int} (h:x.length=y.length) (hx:x.length<=8):G.bj (eh x) (eh y)=eh (G.bj x y):=by
 have hl:=G.dD h;rw [eh,eh,eh,cX _ _ _ Q2,cX _ _ _ Q2,cX _ _ _ Q2,hl];unfold G.bj;rw [List.zipWith_append h,h];congr 1;simp
theorem Bc {n K L:Nat} {l:List ae} {t:ae} (hn:n<=8) (hl:l.length<=100000) (hKL:K+L<1000000) (hok:∀ u∈l,pg n K u) (ht:pg n L t) (hb:∀ u∈l,∀ j,-1000000<=u.1.getD j 0/\u.1.getD j 0<1000000) (hb':∀ j,-1000000<=t.1.getD j 0/\t.1.getD j 0<1000000) :
 ∃ ls:List ae,Ev (fun k=>bb k l t) ls/\ls.length=l.length/\(∀ u∈ls,pg n (K+L) u)/\cA n ls=G.kB (cA n l) (iR n t):=by
 have t8:=ht.len;obtain ⟨t1,t2,t3⟩:=ht;have c:=pS (n:=l.length) (P:=fun i=>∀ acc:List ae,acc.length=i->∃ ls:List ae,ls.length=l.length-i/\(∀ u∈ls,pg n (K+L) u)/\cA n ls=G.kB (cA n (l.drop i)) (iR n t)/\aL (fun k m=>bb.l0 k m l (l.length:Int) (i:Int) t acc) (acc++ls)) ?_ ?_ 0 (Qy _) [] rfl
 ·obtain ⟨ls,h1,h2,h3,h4⟩:=c;exact ⟨ls,Ev.step (fun k=>nO k _ _) h4.diag,Q2,h2,h3⟩
 ·intro acc hacc;exact ⟨[],Q3,(fun u h=>by cases h),by rw [V2];rfl,aL.step (fun k m=>bb.aN k m _ _ _ _ _) (aL.bF (Q8 Q2) (by rw [Vq];exact aL.of (aV _)))⟩
 intro i hi ih acc hacc;have e:(cH (t:=ab) l (i:Int):ae)=l[i]:=cE hi;have o8:=(hok l[i] (Qi hi)).len;obtain ⟨o1,o2,o3⟩:=hok l[i] (Qi hi);have d:=hb l[i] (Qi hi);obtain ⟨v,v1,v2,v3⟩:=sI o3.rb.1 t3.rb.1 o3.rb.2 t3.rb.2 Q2;obtain ⟨ls,h1,h2,h3,h4⟩:=ih (acc++[(G.bj l[i].1 t.1,v,())]) (by simp [hacc]);have ha:G.bj l[i].1 t.1=eh (G.bj (l[i].1.take n) (t.1.take n)):=by
  rw [<- Jz (o2.trans t2.symm) Q2,<- o1,<- t1]
 have b:(G.bj (l[i].1.take n) (t.1.take n)).length=n:=(G.dD (o2.trans t2.symm)).trans o2;have a:(G.bj l[i].1 t.1).take n=G.bj (l[i].1.take n) (t.1.take n):=by
  rw [ha]
  conv=>lhs;arg 1;rw [<- b]
  exact gg Q2
 refine ⟨(G.bj l[i].1 t.1,v,()) :: ls,by simp only [List.length_cons];omega,fun u hu=>?_,?_,?_⟩
 ·rcases Qo.1 hu with rfl | hu
  ·exact ⟨by show G.bj l[i].1 t.1=eh ((G.bj l[i].1 t.1).take n);rw [a];exact ha,by show ((G.bj l[i].1 t.1).take n).length=n;rw [a];exact b,⟨_,v2,v3⟩⟩
  exact h2 u hu
 ·rw [eJ hi];show iR n _ :: cA n ls=G.kB (iR n l[i] :: cA n (l.drop (i+1))) (iR n t);rw [h3];show ((G.bj l[i].1 t.1).take n,mL v) :: _=(G.bj (l[i].1.take n) (t.1.take n),mL l[i].2.1*mL t.2.1) :: _;rw [a,rA v2];rfl
 rw [show acc++(G.bj l[i].1 t.1,v,()) :: ls=(acc++[(G.bj l[i].1 t.1,v,())])++ls by simp];refine aL.step (fun k m=>bb.aN k m _ _ _ _ _) (aL.bT (Qb Q2) (aL.iT Q2 ?_));rw [e];have key:=pS (n:=8) (P:=fun j=>dV (fun k f g=>bb.l1 k f g l (l.length:Int) (i:Int) (j:Int) t acc l[i] (Cp l[i].1 t.1 j)) ((acc++[(G.bj l[i].1 t.1,v,())])++ls)) ?_ ?_ 0 (Qy _)
 ·rw [L9 o8] at key;exact key.diag
 ·rw [Ma o8 t8];refine dV.step (fun k f g=>bb.eF k f g _ _ _ _ _ _ _ _) (dV.bF (Q8 Q2) (dV.bind v1 (dV.iT (by simp only [List.length_cons,List.length_nil];omega) (dV.of ?_))));rw [fY Q2];exact h4
 intro j hj ihj;have a1:=d j;have a2:=hb' j;have e1:uI (0:Int) 8 (Cp l[i].1 t.1 j) (j:Int)=l[i].1.getD j 0:=by
  rw [mi (It _ _ _) hj];exact Ol _
 have e2:uI (0:Int) 8 t.1 (j:Int)=t.1.getD j 0:=by
  rw [mi t8 hj,Q6,Qh Q2];rfl
 refine dV.step (fun k f g=>bb.eF k f g _ _ _ _ _ _ _ _) (dV.bT (Qb Q2) (dV.iT Q2 (dV.iT Q2 (dV.iT Q2 ?_))));rw [e1,e2,fY Q2,cD Q2 Q2,AM (It _ _ _) hj,Oj];exact ihj
end Go.Proofs.YtfbgaddecbiimaaGreatDoor.Q
end
section
namespace Go.Proofs.YtfbgaddecbiimaaGreatDoor.G
def dA:Ex->Int
 | []=>0
 | a :: l=>a+dA l
theorem jF:∀ {a b:Ex},a.length=b.length->dA (bj a b)=dA a+dA b
 | [],[],_=>rfl
 | [],_ :: _,h=>by simp at h
 | _ :: _,[],h=>by simp at h
 | a :: l,b :: k,h=>by
  have ih:=jF (a:=l) (b:=k) (by simpa using h);simp only [bj] at ih;simp only [bj,List.zipWith_cons_cons,dA,ih];omega
def kM:List Tm->Int
 | []=>-1
 | t :: l=>max (dA t.1) (kM l)
theorem qU {d:Int}:∀ {p:List Tm},-1<=d->(∀ t∈p,dA t.1<=d)->kM p<=d
 | [],h,_=>h
 | t :: p,h,h'=>by
  have h1:=qU (p:=p) h (fun u hu=>h' u (Qa _ hu));have h2:=h' t (Q7 ..);simp only [kM];omega
theorem kf:∀ {p:List Tm} {t:Tm},t∈p->dA t.1<=kM p
 | [],_,h=>by simp at h
 | u :: p,t,h=>by
  simp only [kM];rcases Qo.1 h with e | e
  ·rw [e];omega
  have:=kf e;omega
theorem qT:∀ (p:List Tm),-1<=kM p
 | []=>by simp [kM]
 | t :: p=>by have:=qT p;simp only [kM];omega
theorem IB {l:List Tm} {e:Ex} (h:co l e≠0):∃ t∈l,t.1=e:=by
 apply QK;intro c;exact h (yL fun t ht e'=>c ⟨t,ht,e'⟩)
theorem eO.from {n:Nat} {p r:List Tm} (h:eO n p) (he:∀ e,co p e=co r e) {t:Tm} (ht:t∈p):∃ u∈r,u.1=t.1:=by
 apply IB;rw [<- he,h.gh t ht];exact h.nz t ht
theorem eO.deg_le {n:Nat} {p r:List Tm} (h:eO n p) (he:∀ e,co p e=co r e):kM p<=kM r:=qU (qT r) fun t ht=>by
 obtain ⟨u,hu,e⟩:=h.from he ht;rw [<- e];exact kf hu
theorem eO.empty {n n':Nat} {p q:List Tm} (hp:eO n p) (hq:eO n' q) (he:∀ e,co p e=co q e):p=[]↔q=[]:=by
 have h1:=fun t=>eO.BB hp hq he t;constructor
 ·intro h;subst h;cases q with
  | nil=>rfl
  | cons u q=>have:=(h1 u).2 (Q7 ..);simp at this
 intro h;subst h;cases p with
 | nil=>rfl
 | cons u q=>have:=(h1 u).1 (Q7 ..);simp at this
structure Ord (g:Ex->Ex->Bool):Prop where
 irr:∀ a,g a a=false
 tr:∀ {a b c},g a b=true->g b c=true->g a c=true
 tot:∀ {a b:Ex},a.length=b.length->g a b=false->g b a=false->a=b
 add:∀ {a b c:Ex},a.length=c.length->b.length=c.length->g a b=true->g (bj a c) (bj b c)=true
theorem oH:Ord fa:=⟨iA,fT,kh,rM⟩
def gtD (a b:Ex):Bool:=if dA a=dA b then fa a b else decide (dA a>dA b)
theorem Bp:Ord gtD:=by
 refine ⟨fun a=>?_,fun {a b c} h h'=>?_,fun {a b} hl h h'=>?_,fun {a b c} h1 h2 h=>?_⟩
 ·rw [gtD,Qk rfl];exact iA a
 ·rw [gtD] at h h' ⊢
  by_cases e:dA a=dA b
  ·rw [Qk e] at h
   by_cases e':dA b=dA c
   ·rw [Qk e'] at h';rw [Qk (e.trans e')];exact fT h h'
   rw [Qc e'] at h';have:dA b>dA c:=by simpa using h'
   rw [Qc Q2];simp;omega
  rw [Qc e] at h;have h1:dA a>dA b:=by simpa using h
  by_cases e':dA b=dA c
  ·rw [Qc Q2];simp;omega
  rw [Qc e'] at h';have:dA b>dA c:=by simpa using h'
  rw [Qc Q2];simp;omega
 ·rw [gtD] at h h'
  by_cases e:dA a=dA b
  ·rw [Qk e] at h;rw [Qk e.symm] at h';exact kh hl h h'
  rw [Qc e] at h;rw [Qc (fun x=>e x.symm)] at h';have h1:¬ dA a>dA b:=by simpa using h
  have h2:¬ dA b>dA a:=by simpa using h'
  omega
 rw [gtD] at h ⊢;rw [jF h1,jF h2]
 by_cases e:dA a=dA b
 ·rw [Qk e] at h;rw [Qk Q2];exact rM h1 h2 h
 rw [Qc e] at h;have h1:dA a>dA b:=by simpa using h
 rw [Qc Q2];simp;omega
def Top (g:Ex->Ex->Bool) (p:List Tm) (t:Tm):Prop:=t∈p/\∀ u∈p,u.1=t.1∨g t.1 u.1=true
theorem xe {g:Ex->Ex->Bool} (hg:Ord g) {n:Nat}:∀ {p:List Tm},Len n p->p≠[]->∃ t,Top g p t
 | [],_,h=>absurd rfl h
 | [t],_,_=>⟨t,Q7 ..,fun u hu=>.inl (by rw [QB] at hu;rw [hu])⟩
 | t :: s :: p,hl,_=>by
  obtain ⟨v,h1,h2⟩:=xe hg (p:=s :: p) (fun x hx=>hl x (Qa _ hx)) Q3;cases c:g t.1 v.1 with
  | true =>
   refine ⟨t,Q7 ..,fun u hu=>?_⟩;rcases Qo.1 hu with e | e
   ·exact .inl (by rw [e])
   rcases h2 u e with e' | e'
   ·exact .inr (by rw [e'];exact c)
   exact .inr (hg.tr c e')
  | false =>
   refine ⟨v,Qa _ h1,fun u hu=>?_⟩;rcases Qo.1 hu with e | e
   ·rw [e];cases c':g v.1 t.1 with
    | true=>exact .inr rfl
    | false=>exact .inl (hg.tot (by rw [hl t (Q7 ..),hl v (Qa _ h1)]) c c')
   exact h2 u e
theorem pU {g:Ex->Ex->Bool} (hg:Ord g) {n:Nat} {p q:List Tm} (hp:Len n p) (hq:Len n q) {t u:Tm} (ht:Top g p t) (hu:Top g q u) :
 co (prod p q) (bj t.1 u.1)=co p t.1*co q u.1/\∀ v∈prod p q,v.1=bj t.1 u.1∨g (bj t.1 u.1) v.1=true:=by
 have lt:=hp t ht.1;have lu:=hq u hu.1;have d:∀ a∈p,∀ b∈q,(a.1=t.1/\b.1=u.1)∨g (bj t.1 u.1) (bj b.1 a.1)=true:=fun a ha b hb=>by
  have la:=hp a ha;have lb:=hq b hb;have s1:g t.1 a.1=true->g (bj t.1 u.1) (bj a.1 u.1)=true:=hg.add (lt.trans lu.symm) (la.trans lu.symm);have s2:g u.1 b.1=true->g (bj a.1 u.1) (bj b.1 a.1)=true:=fun h=>by
   rw [fK a.1];exact hg.add (lu.trans la.symm) (lb.trans la.symm) h
  rcases ht.2 a ha with e | e
  ·rcases hu.2 b hb with e' | e'
   ·exact .inl ⟨e,e'⟩
   exact .inr (by have:=s2 e';rw [e] at this ⊢;exact this)
  rcases hu.2 b hb with e' | e'
  ·exact .inr (by have:=s1 e;rw [e',fK u.1];exact this)
  exact .inr (hg.tr (s1 e) (s2 e'))
 constructor
 ·show cY _ _=_;rw [dh];have h1:cY (fun e=>cY (fun f=>dl (bj t.1 u.1) (bj f e)) q) p=cY (fun e=>co q u.1*dl t.1 e) p:=jB fun a ha=>.inr (by
   by_cases c:a.1=t.1
   ·have h2:cY (fun f=>dl (bj t.1 u.1) (bj f a.1)) q=cY (dl u.1) q:=jB fun b hb=>.inr (by
     simp only [dl]
     by_cases c':b.1=u.1
     ·rw [Qk c',Qk (by rw [c',c,fK])]
     rw [Qc c',Qc (fun e=>by
      rcases d a ha b hb with e' | e'
      ·exact c' e'.2
      rw [e,hg.irr] at e';cases e')])
    rw [h2];simp only [dl,if_pos c];show co q u.1=_;grind
   have h2:cY (fun f=>dl (bj t.1 u.1) (bj f a.1)) q=cY (fun _=>0) q:=jB fun b hb=>.inr (by
    simp only [dl];rw [Qc (fun e=>by
     rcases d a ha b hb with e' | e'
     ·exact c e'.1
     rw [e,hg.irr] at e';cases e')])
   rw [h2,yn];simp only [dl,if_neg c];grind)
  rw [h1,mD];show co q u.1*co p t.1=_;grind
 intro v hv;obtain ⟨a,ha,hv⟩:=Wp.1 hv;obtain ⟨b,hb,rfl⟩:=Qs.1 hv;rcases d a ha b hb with e | e
 ·exact .inl (by show bj b.1 a.1=_;rw [e.1,e.2,fK])
 exact .inr e
theorem Mr {n:Nat} {p q r:List Tm} (hp:eO n p) (hq:eO n q) (hr:eO n r) (he:∀ e,co r e=co (prod p q) e) (f:p≠[]) (d:q≠[]) (np:∀ t∈p,0<=dA t.1) (nq:∀ t∈q,0<=dA t.1):kM r=kM p+kM q:=by
 obtain ⟨t,ht⟩:=xe Bp hp.len f;obtain ⟨u,hu⟩:=xe Bp hq.len d;obtain ⟨h3,h4⟩:=pU Bp hp.len hq.len ht hu;have s:dA (bj t.1 u.1)=dA t.1+dA u.1:=jF ((hp.len t ht.1).trans (hq.len u hu.1).symm);have gd:∀ {a b:Ex},a=b∨gtD b a=true->dA a<=dA b:=fun {a b} h=>by
  rcases h with h | h
  ·rw [h];exact Vl _
  rw [gtD] at h
  by_cases c:dA b=dA a
  ·omega
  rw [Qc c] at h;have:dA b>dA a:=by simpa using h
  omega
 have dt:kM p=dA t.1:=Yv (qU (by have:=np t ht.1;omega) fun a ha=>gd (ht.2 a ha)) (kf ht.1);have du:kM q=dA u.1:=Yv (qU (by have:=nq u hu.1;omega) fun a ha=>gd (hu.2 a ha)) (kf hu.1);have hm:(bj t.1 u.1,co p t.1*co q u.1)∈r:=(hr.mem_iff _).2 ⟨by rw [he,h3],by
  rw [hp.gh t ht.1,hq.gh u hu.1];exact fun h=>(VB.1 h).elim (hp.nz t ht.1) (hq.nz u hu.1)⟩
 refine Yv (Vf (hr.deg_le he) ?_) (by rw [dt,du,<- s];exact kf hm);refine qU (by have:=np t ht.1;have:=nq u hu.1;omega) fun v hv=>?_;have:=gd (h4 v hv);omega
def Cz (D H:Int) (q:Rat):Prop:=∃ z:Int,q*(D:Rat)=(z:Rat)/\(z.natAbs:Int)<=H
theorem Cz.zero {D H:Int} (h:0<=H):Cz D H 0:=⟨0,Q3,by simpa using h⟩
theorem Cz.mono {D H H':Int} {q:Rat} (h:Cz D H q) (hh:H<=H'):Cz D H' q:=let ⟨z,h1,h2⟩:=h;⟨z,h1,Q2⟩
theorem Cz.add {D H H':Int} {a b:Rat} (h:Cz D H a) (h':Cz D H' b):Cz D (H+H') (a+b):=by
 obtain ⟨z,h1,h2⟩:=h;obtain ⟨y,h3,h4⟩:=h';refine ⟨z+y,?_,Q2⟩;rw [Rat.intCast_add,<- h1,<- h3];grind
theorem Cz.mul {D H D' H':Int} {a b:Rat} (h:Cz D H a) (h':Cz D' H' b):Cz (D*D') (H*H') (a*b):=by
 obtain ⟨z,h1,h2⟩:=h;obtain ⟨y,h3,h4⟩:=h';refine ⟨z*y,?_,?_⟩
 ·rw [Rat.intCast_mul,Rat.intCast_mul,<- h1,<- h3];grind
 rw [Vw,Int.natCast_mul];exact VI h2 h4 Q2 Q2
theorem Cz.size {D H:Int} {q:Rat} (hD:0<D) (h:Cz D H q):(q.den:Int)<=D/\(q.num.natAbs:Int)<=H:=by
 obtain ⟨z,h1,h2⟩:=h;have hq:q=Rat.divInt z D:=by
  rw [Y9,<- h1];have:(D:Rat)≠0:=by
   intro h;have:=Wz.1 (h.trans Rat.intCast_zero.symm);omega
  rw [Rat.div_def,Rat.mul_assoc,Rat.mul_inv_cancel _ this];grind
 have hg:D.gcd z≠0:=by
  intro h;have:=Int.gcd_eq_zero_iff.1 h;omega
 constructor
 ·rw [hq,Xx,Qc Q2];have:D.natAbs / D.gcd z<=D.natAbs:=Wy ..;omega
 rw [hq,Xw,Wg hD,VP];have:(z / (D.gcd z:Int)).natAbs<=z.natAbs:=by
  rw [X4 (WQ ..)];exact Wy ..
 omega
def CL (D:Int):Int->List Tm->Prop
 | H,[]=>0<=H
 | H,t :: l=>∃ z:Int,t.2*(D:Rat)=(z:Rat)/\CL D (H-z.natAbs) l
theorem CL.mono {D:Int}:∀ {l:List Tm} {H H':Int},CL D H l->H<=H'->CL D H' l
 | [],H,H',h,hh=>Vf h hh
 | t :: l,H,H',⟨z,h1,h2⟩,hh=>⟨z,h1,h2.mono Q2⟩
theorem CL.pos {D:Int}:∀ {l:List Tm} {H:Int},CL D H l->0<=H
 | [],H,h=>h
 | t :: l,H,⟨z,h1,h2⟩=>by have:=h2.pos;omega
theorem CL.append {D:Int}:∀ {p q:List Tm} {H H':Int},CL D H p->CL D H' q->CL D (H+H') (p++q)
 | [],q,H,H',h,h'=>h'.mono (by have:0<=H:=h;omega)
 | t :: p,q,H,H',⟨z,h1,h2⟩,h'=>⟨z,h1,(h2.append h').mono Q2⟩
theorem CL.perm {D H:Int} {p q:List Tm} (hp:p.Perm q) (h:CL D H p):CL D H q:=by
 induction hp generalizing H with
 | nil=>exact h
 | cons t _ ih=>obtain ⟨z,h1,h2⟩:=h;exact ⟨z,h1,ih h2⟩
 | swap a b l =>
  obtain ⟨z,h1,y,h2,h3⟩:=h;exact ⟨y,h2,z,h1,h3.mono Q2⟩
 | trans _ _ i1 i2=>exact i2 (i1 h)
theorem CL.kB {D D' H':Int} {t:Tm} (ht:Cz D' H' t.2):∀ {p:List Tm} {H:Int},CL D H p->CL (D*D') (H*H') (kB p t)
 | [],H,h=>QX h (by obtain ⟨z,_,h2⟩:=ht;omega)
 | u :: p,H,⟨z,h1,h2⟩=>by
  have ih:=CL.kB ht h2;obtain ⟨y,h3,h4⟩:=ht;refine ⟨z*y,?_,ih.mono ?_⟩
  ·show u.2*t.2*_=_;rw [Rat.intCast_mul,Rat.intCast_mul,<- h1,<- h3];grind
  rw [Vw,Int.natCast_mul,Ya];have:(z.natAbs:Int)*y.natAbs<=z.natAbs*H':=Ql h4 Q2;omega
theorem CL.prod {D D':Int} {q:List Tm}:∀ {p:List Tm} {H H':Int},CL D H p->CL D' H' q->CL (D*D') (H*H') (prod p q)
 | [],H,H',h,h'=>QX h h'.pos
 | t :: p,H,H',⟨z,h1,h2⟩,h'=>by
  have h3:Cz D (z.natAbs:Int) t.2:=⟨z,h1,Vl _⟩;have h4:=CL.kB h3 h';rw [QH D' D] at h4;have h5:=h4.append (CL.prod h2 h');exact h5.mono (by rw [Ya,QH H'];omega)
theorem CL.co {D:Int} (e:Ex):∀ {p:List Tm} {H:Int},CL D H p->Cz D H (co p e)
 | [],H,h=>by rw [vi];exact Cz.zero h
 | t :: p,H,⟨z,h1,h2⟩=>by
  have ih:=CL.co e h2;rw [iI];split
  ·exact (Cz.add ⟨z,h1,Vl _⟩ ih).mono Q2
  refine (Cz.add (Cz.zero (H:=0) (Vl _)) ih).mono ?_;omega
theorem CL.neg {D:Int}:∀ {p:List Tm} {H:Int},CL D H p->CL D H (neg p)
 | [],H,h=>h
 | u :: p,H,⟨z,h1,h2⟩=>by
  refine ⟨-z,?_,?_⟩
  ·show -u.2*_=_;rw [Rat.intCast_neg,<- h1];grind
  rw [Int.natAbs_neg];exact CL.neg h2
theorem eO.wH {n:Nat}:∀ {p q:List Tm},eO n p->eO n q->(∀ e,G.co p e=G.co q e)->p.Perm q
 | [],q,hp,hq,h=>by rw [(hp.empty hq h).1 rfl]
 | t :: p,q,hp,hq,h=>by
  have ht:t∈q:=(eO.BB hp hq h t).1 (List.mem_cons_self ..);obtain ⟨a,b,rfl⟩:=List.append_of_mem ht;have hm:(a++t :: b).Perm (t :: (a++b)):=List.perm_middle;have hd:=hq.perm hm;refine (List.Perm.cons t (eO.wH hp.tail hd.tail fun e=>?_)).trans hm.symm;have h1:=h e;have h2:G.co (a++t :: b) e=G.co (t :: (a++b)) e:=jf _ hm;rw [h2,iI,iI] at h1;grind
def canon (p acc:List Tm):List Tm:=p.foldl (fun acc t=>iW acc t.1 t.2) acc
theorem o9 {n:Nat}:∀ {p acc:List Tm},eO n acc->Len n p->eO n (canon p acc)/\∀ m,cY m (canon p acc)=cY m acc+cY m p
 | [],acc,h,_=>⟨h,fun m=>by simp only [canon,List.foldl_nil,cY];grind⟩
 | t :: p,acc,h,hl=>by
  obtain ⟨h1,h2⟩:=Js (c:=t.2) h (hl t (List.mem_cons_self ..));obtain ⟨h3,h4⟩:=o9 (p:=p) h1 (fun u hu=>hl u (List.mem_cons_of_mem _ hu));refine ⟨h3,fun m=>?_⟩;show cY m (canon p (iW acc t.1 t.2))=_;rw [h4,h2];simp only [cY];grind
end Go.Proofs.YtfbgaddecbiimaaGreatDoor.G
end
section
namespace Go.Proofs.YtfbgaddecbiimaaGreatDoor.Q
open Go.RowKit Go.Proofs.YtfbgaddecbiimaaGreatDoorW.PrintWords Go.Proofs.YtfbgaddecbiimaaGreatDoorW.PrintMore Go.Proofs.YtfbgaddecbiimaaGreatDoor.V Go.Proofs.YtfbgaddecbiimaaGreatDoor.E
open Go.Proofs.YtfbgaddecbiimaaGreatDoor.P (Dg Nm vl WW RR bE gI aV jW kL dK aH bC aW cJ cD u64)
open Go.Proofs.YtfbgaddecbiimaaGreatDoor.G (Ex Tm cY co eW fQ eO iW)
theorem NB {n K:Nat} {l:List ae} (hok:∀ u∈l,su n K u):RelP n ((n:Int),l,()) (cT l) where
 n_:=rfl
 len:=by simp [cT]
 at_:=fun i h=>by
  have hi:i<l.length:=by simpa [cT] using h
  have e:cL ((n:Int),l,()) i=l[i]:=cE hi;have e2:(cT l)[i]=fi l[i]:=by simp [cT]
  rw [e,e2];exact ⟨rfl,((hok l[i] (Qi hi)).2.2).rb.1⟩
theorem NA {n K:Nat} {r:List ae} (hok:∀ u∈r,pg n K u):RelR r (cA n r) K where
 len:=by simp [cA]
 at_:=fun i h=>by
  have hi:i<r.length:=by simpa [cA] using h
  have e:oB r i=r[i]:=cE hi;have e2:(cA n r)[i]=iR n r[i]:=by simp [cA]
  rw [e,e2];obtain ⟨h1,h2,h3⟩:=hok r[i] (Qi hi);exact ⟨h1,h3.rb.1,h3.rb.2⟩
theorem Is_of {n K L:Nat} {l r:List ae} (hn:n<=8) (hok:∀ u∈l,su n K u) (hr:∀ u∈r,pg n L u) (hf:OX ((n:Int),l,())) (hL:L<1073741824) (hlen:r.length<=100000) (hs:fQ n (cT l)) (hd:eO n (cA n r)) (he:eW (cT l) (cA n r)):Ev (fun k=>fW k ((n:Int),l,()) r (n:Int)) true :=
 FW hn (NB hok) (NA hr) hf hL (by simpa [cA] using hlen) hs hd he
theorem Ga {x:List Int} (h:x.length<=8) (hb:∀ e∈x,0<=e/\e<=256):Ev (fun k=>gm k x) (sE x):=by
 have main:=pS (n:=x.length) (P:=fun i=>aL (fun k m=>gm.l0 k m (sE (x.take i)) x (x.length:Int) (i:Int)) (sE x)) ?_ ?_ 0 (Qy _)
 ·exact Ev.step (fun k=>Gb k _) main.diag
 ·rw [Qw];exact aL.step (fun k m=>gm.aN k m _ _ _ _) (aL.bF (Q8 Q2) (aL.of (aV _)))
 intro i hi ih;have e:(cH (t:=(.int .i64)) x (i:Int):Int)=x[i]:=cE hi;have b1:=tB (B:=256) Q2 (l:=x.take i) (fun y hy=>hb y (VO hy));have b2:=hb x[i] (Qi hi);have b3:(x.take i).length<=8:=by rw [Qd];omega
 refine aL.step (fun k m=>gm.aN k m _ _ _ _) (aL.bT (Qb Q2) (aL.iT Q2 ?_));rw [e,fY Q2,cD Q2 Q2,<- oz hi];exact ih
def dgM (l:List ae) (a:Int):Int:=l.foldl (fun a t=>mx a (sE t.1)) a
theorem se {n K:Nat} {l:List ae} (hn:n<=8) (hl:l.length<=100000) (hok:∀ u∈l,su n K u):Ev (fun k=>eR k ((n:Int),l,())) (dgM l (-1)):=by
 have main:=pS (n:=l.length) (P:=fun i=>∀ a,aL (fun k m=>eR.l0 k m a l (l.length:Int) (i:Int)) (dgM (l.drop i) a)) ?_ ?_ 0 (Qy _) (-1)
 ·exact Ev.step (fun k=>zf k _) main.diag
 ·intro a;rw [V2];exact aL.step (fun k m=>eR.aN k m _ _ _ _) (aL.bF (Q8 Q2) (aL.of (aV _)))
 intro i hi ih a;have e:(cH (t:=ah) l (i:Int):ae)=l[i]:=cE hi;obtain ⟨o1,o2,o3⟩:=hok l[i] (Qi hi);have hs:=Ga (x:=l[i].1) Q2 (fun y hy=>by have:=o2 y hy;omega);refine aL.step (fun k m=>eR.aN k m _ _ _ _) (aL.bT (Qb Q2) (aL.iT Q2 ?_));rw [e,eJ hi];refine aL.bind hs ?_;rw [fY Q2];exact ih _
theorem vI {n K:Nat} {l:List ae} (hn:n<=8) (hl:l.length<=100000) (hK:K<1073741824) (hok:∀ u∈l,su n K u):Ev (fun k=>iw k ((n:Int),l,())) ((n:Int),l,()):=by
 have main:=pS (n:=l.length) (P:=fun i=>aL (fun k m=>iw.l0 k m l (l.length:Int) (i:Int) ((n:Int),l,()) ((0:Int),[],()) (n:Int) (l.take i)) ((n:Int),l,())) ?_ ?_ 0 (Qy _)
 ·exact Ev.step (fun k=>DH k _) main.diag
 ·rw [Qw];exact aL.step (fun k m=>iw.aN k m _ _ _ _ _ _ _) (aL.bF (Q8 Q2) (aL.of (aV _)))
 intro i hi ih;have e:(cH (t:=ah) l (i:Int):ae)=l[i]:=cE hi;obtain ⟨o1,o2,o3⟩:=hok l[i] (Qi hi);have hc:=DT o3.rb.1 o3.rb.2 hK;have hz:(List.replicate (Int.toNat (0:Int)) ((0:Int):Int))=[]:=rfl;refine aL.step (fun k m=>iw.aN k m _ _ _ _ _ _ _) (aL.bT (Qb Q2) (aL.iT Q2 (aL.iT (by show (0:Int)<=0/\(0:Int)<=(n:Int)/\8*(n:Int).toNat<=281474976710656/\(n:Int).toNat<=maxLen;unfold maxLen;omega) ?_)));rw [e,hz];refine aL.iT (by simp only [List.length_nil];omega) (aL.bind hc (aL.iT (by simp only [List.length_cons,List.length_nil,Qd];omega) ?_));rw [fY Q2,List.nil_append];rw [show l.take i++[(l[i].1,l[i].2.1,())]=l.take (i+1) by rw [V8 hi]];exact ih
theorem Cw {p:ay} (hv:fR p):∃ n:Nat,n<=8/\p.1=(n:Int)/\∀ u∈p.2.1,su n 200 u:=by
 obtain ⟨h1,h2,h3,h4⟩:=hv;refine ⟨p.1.toNat,Q2,Q2,fun u hu=>?_⟩;obtain ⟨i,hi,rfl⟩:=QL hu;have e:cL p i=p.2.1[i]:=cE hi;have g:=(h4 i hi).1;rw [e] at g;exact ⟨by have:=g.len;omega,fun x hx=>by have:=g.ex x hx;omega,g.co⟩
theorem H0 {p:ay} {n:Nat} (ha:pP p) (hv:fR p) (hn:p.1=(n:Int)):∃ r:List ae,Ev (fun k=>bQ k p) r/\r.length=p.2.1.length/\(∀ u∈r,pg n 800 u)/\cA n r=cT p.2.1:=by
 obtain ⟨r,r1,r2,r3⟩:=HI ha hv;have b:n<=8:=by have:=hv.n8;omega
 have tl:∀ i,i<p.2.1.length->(cL p i).1.length=n:=fun i hi=>by have:=(hv.good i hi).1.len;omega
 refine ⟨r,r1,r2,fun u hu=>?_,?_⟩
 ·obtain ⟨i,hi,rfl⟩:=QL hu;obtain ⟨a1,q,a2,a3,a4,a5⟩:=r3 i hi;have hl:=tl i Q2;have ht:r[i].1.take n=(cL p i).1:=by rw [a1,<- hl];exact gg Q2
  exact ⟨by rw [ht];exact a1,by rw [ht];exact hl,q,a3,a5⟩
 apply QP (by simp [cA,cT,r2]);intro i h1 h2;have hi:i<r.length:=by simpa [cA] using h1
 obtain ⟨a1,q,a2,a3,a4,a5⟩:=r3 i hi;have a:i<p.2.1.length:=Q2;have hl:=tl i a;have e:cL p i=p.2.1[i]:=cE a;have ht:r[i].1.take n=(cL p i).1:=by rw [a1,<- hl];exact gg Q2
 simp only [cA,cT,Qz,iR,fi];rw [ht,rA a3,<- e,mq a2]
theorem I3 {p:ay} {n:Nat} (hv:fR p) (hn:p.1=(n:Int)):(cT p.2.1).Pairwise fun a b=>G.fa a.1 b.1=true:=by
 have tl:∀ i,i<p.2.1.length->(cL p i).1.length=n:=fun i hi=>by have:=(hv.good i hi).1.len;omega
 have c:∀ d i,i+d+1<p.2.1.length->G.fa (cL p i).1 (cL p (i+d+1)).1=true:=by
  intro d
  induction d with
  | zero =>
   intro i hi;have h:=(hv.good (i+1) hi).2 Q2;exact (JU ((tl i Q2).trans (tl (i+1) hi).symm)).1 h
  | succ d ih =>
   intro i hi;have h:=(hv.good (i+d+2) hi).2 Q2;exact G.fT (ih i Q2) ((JU ((tl (i+d+1) Q2).trans (tl (i+d+2) hi).symm)).1 h)
 rw [VW];intro i j hi hj hij;have e:i<p.2.1.length:=by simpa [cT] using hi
 have f:j<p.2.1.length:=by simpa [cT] using hj
 have h:=c (j-i-1) i Q2;rw [show i+(j-i-1)+1=j by omega,show cL p i=p.2.1[i] from cE e,show cL p j=p.2.1[j] from cE f] at h;simp only [cT,Qz,fi];exact h
theorem I0 {p:ay} {n:Nat} (hv:fR p) (hn:p.1=(n:Int)):fQ n (cT p.2.1) where
 ord:=I3 hv hn
 nz:=fun t ht a=>by
  obtain ⟨u,hu,rfl⟩:=Qs.1 ht;obtain ⟨i,hi,rfl⟩:=QL hu;have g:=(hv.good i hi).1;rw [show cL p i=p.2.1[i] from cE hi] at g;have hc:E8 200 p.2.1[i].2.1:=g.co;have hr:=hc.rb.1;have h0':gB p.2.1[i].2.1=0:=a;rw [h0'] at hr;have h1:=bE aH hr.2.1 (P.Can.zero WW);exact g.ne (by rw [h1];rfl)
 len:=fun t ht=>by
  obtain ⟨u,hu,rfl⟩:=Qs.1 ht;obtain ⟨i,hi,rfl⟩:=QL hu;have g:=(hv.good i hi).1;rw [show cL p i=p.2.1[i] from cE hi] at g;have:=g.len;show p.2.1[i].1.length=n;omega
theorem zu {n K:Nat} {l:List ae} (hn:n<=8) (hl:l.length<=4000) (hK:K<=200) (hok:∀ u∈l,su n K u) (hs:fQ n (cT l)) (hd:∀ u∈l,sE u.1<=40) (hx:∀ u∈l,∀ e∈u.1,e<=40):fR ((n:Int),l,()) where
 n0:=by show (0:Int)<=(n:Int);omega
 n8:=by show (n:Int)<=8;omega
 zi:=hl
 good:=fun i hi=>by
  have a:i<l.length:=hi;have e:cL ((n:Int),l,()) i=l[i]:=cE a;have hm:=Qi a;obtain ⟨o1,o2,o3⟩:=hok l[i] hm;refine ⟨?_,fun b=>?_⟩
  ·rw [e];refine ⟨by show (l[i].1.length:Int)=(n:Int);omega,fun x h=>⟨(o2 x h).1,hx l[i] hm x h⟩,hd l[i] hm,o3.mono hK,fun h=>?_⟩;have hz:l[i].2.1.2.1=[]:=Wb.1 h;have hr:=o3.rb.1;refine hs.nz (fi l[i]) (Qs.2 ⟨_,hm,rfl⟩) ?_;show gB l[i].2.1=0;unfold gB;rw [hz];simp [vl,sg]
  have hp:i-1<l.length:=Q2;have e1:cL ((n:Int),l,()) (i-1)=l[i-1]:=cE hp;rw [e,e1];have h:=VW.1 hs.ord (i-1) i (by simpa [cT] using hp) (by simpa [cT] using a) Q2;simp only [cT,Qz,fi] at h;exact (JU ((hok _ (Qi hp)).1.trans o1.symm)).2 h
abbrev p1 (n:Nat) (e:List Int) (d:bA):ay:=((n:Int),[(e,d,())],())
end Go.Proofs.YtfbgaddecbiimaaGreatDoor.Q
end
section
namespace Go.Proofs.YtfbgaddecbiimaaGreatDoor.G
def NN (p:List Tm):Prop:=∀ t∈p,∀ k∈t.1,(0:Int)<=k
def val (x:List Rat) (p:List Tm):Rat:=cY (mv x) p
theorem nH:∀ {a b:Ex} {k:Int},(∀ k∈a,(0:Int)<=k)->(∀ k∈b,(0:Int)<=k)->k∈bj a b->0<=k
 | [],_,_,_,_,h=>by simp [bj] at h
 | _ :: _,[],_,_,_,h=>by simp [bj] at h
 | a :: l,b :: m,k,h1,h2,h=>by
  simp only [bj,List.zipWith_cons_cons,Qo] at h;rcases h with e | e
  ·have:=h1 a (Q7 ..);have:=h2 b (Q7 ..);omega
  exact nH (fun k hk=>h1 k (Qa _ hk)) (fun k hk=>h2 k (Qa _ hk)) e
theorem kX:∀ {a:Ex},(∀ k∈a,(0:Int)<=k)->0<=dA a
 | [],_=>Vl _
 | a :: l,h=>by
  have:=h a (Q7 ..);have:=kX (a:=l) (fun k hk=>h k (Qa _ hk));simp only [dA];omega
theorem yw:∀ {a b:Ex} (c:Ex),a.length=b.length->fa (a++c) (b++c)=fa a b
 | [],[],c,_=>by rw [List.nil_append,iA];rfl
 | [],_ :: _,_,h=>by simp at h
 | _ :: _,[],_,h=>by simp at h
 | a :: l,b :: k,c,h=>by
  simp only [List.cons_append];rw [fa,fa,yw c (by simpa using h)]
abbrev WB:Int:=4294967296
theorem zm {a b:Nat} (h:a<=b):WB ^ a<=WB ^ b:=by
 rcases We a b with g | g
 ·exact Vz (XJ (by decide) g)
 rw [Nat.le_antisymm h g];exact Vl _
theorem oe (a:Nat):0<WB ^ a:=Vu (by decide)
theorem jo {a b:Nat} {x y:Int} (hx:x<=WB ^ a) (hy:y<=WB ^ b) (c:0<=y):x*y<=WB ^ (a+b):=by
 rw [Va];exact VI hx hy c (Vz (oe a))
theorem wb_two (a:Nat):WB ^ a+WB ^ a<=WB ^ (a+1):=by
 have:=oe a;rw [QM];show _<=WB ^ a*4294967296;omega
def CB (k:Nat) (l:List Tm):Prop:=∃ D H:Int,0<D/\D<=WB ^ k/\H<=WB ^ k/\CL D H l
theorem CB.mono {k j:Nat} {l:List Tm} (h:CB k l) (hj:k<=j):CB j l:=by
 obtain ⟨D,H,h0,h1,h2,h3⟩:=h;exact ⟨D,H,h0,Vf h1 (zm hj),Vf h2 (zm hj),h3⟩
theorem CB.nil (k:Nat):CB k []:=⟨1,0,by decide,by have:=oe k;omega,Vz (oe k),by show (0:Int)<=0;decide⟩
theorem CL.mulD {D c:Int} (hc:0<c):∀ {l:List Tm} {H:Int},CL D H l->CL (D*c) (H*c) l
 | [],H,h=>QX h Q2
 | t :: l,H,⟨z,h1,h2⟩=>by
  refine ⟨z*c,?_,(CL.mulD hc h2).mono ?_⟩
  ·rw [Rat.intCast_mul,Rat.intCast_mul,<- h1];grind
  rw [Vw,Int.natCast_mul,Ya];have:(c.natAbs:Int)=c:=Q2;rw [this];omega
theorem CB.append {a b:Nat} {p q:List Tm} (h:CB a p) (h':CB b q):CB (a+b+1) (p++q):=by
 obtain ⟨D,H,h0,h1,h2,h3⟩:=h;obtain ⟨D',H',g0,g1,g2,g3⟩:=h';refine ⟨D*D',H*D'+H'*D,WX h0 g0,Vf (jo h1 g1 Q2) (zm Q2),?_,?_⟩
 ·have a1:=jo h2 g1 Q2;have a2:=jo g2 h1 Q2;rw [Yz b a] at a2;have:=wb_two (a+b);omega
 have a1:=CL.mulD g0 h3;have a2:=CL.mulD h0 g3;rw [QH D' D] at a2;exact a1.append a2
theorem CB.prod {a b:Nat} {p q:List Tm} (h:CB a p) (h':CB b q):CB (a+b) (prod p q):=by
 obtain ⟨D,H,h0,h1,h2,h3⟩:=h;obtain ⟨D',H',g0,g1,g2,g3⟩:=h';exact ⟨D*D',H*H',WX h0 g0,jo h1 g1 Q2,jo h2 g2 g3.pos,h3.prod g3⟩
theorem CB.neg {a:Nat} {p:List Tm} (h:CB a p):CB a (neg p):=by
 obtain ⟨D,H,h0,h1,h2,h3⟩:=h;exact ⟨D,H,h0,h1,h2,h3.neg⟩
def Wd (k:Nat) (c:Rat):Prop:=(c.num.natAbs:Int)<=WB ^ k/\(c.den:Int)<=WB ^ k
theorem Wd.cz {k:Nat} {c:Rat} (h:Wd k c):Cz (c.den:Int) (WB ^ k) c:=by
 refine ⟨c.num,?_,h.1⟩;have h0:((c.den:Int):Rat)≠0:=by
  intro e;have:=Wz.1 (e.trans Rat.intCast_zero.symm);have:=c.den_pos;omega
 have h1:=VQ c;rw [Y9] at h1;generalize ((c.den:Int):Rat)=d at *
 generalize hn:(c.num:Rat)=m at *
 rw [<- h1,Rat.div_mul_cancel h0]
theorem CB.single {k:Nat} {t:Tm} (h:Wd k t.2):CB k [t]:=by
 obtain ⟨z,h1,h2⟩:=h.cz;exact ⟨t.2.den,WB ^ k,by have:=t.2.den_pos;omega,h.2,Vl _,z,h1,by show (0:Int)<=_;omega⟩
theorem CB.list {k:Nat}:∀ {l:List Tm},(∀ t∈l,Wd k t.2)->CB (l.length*(k+1)) l
 | [],_=>CB.nil _
 | t :: l,h=>by
  have h1:=CB.list (l:=l) fun u hu=>h u (Qa _ hu);have h2:=(CB.single (h t (Q7 ..))).append h1;refine CB.mono h2 ?_;rw [List.length_cons,Vi];omega
theorem CB.co {k:Nat} {l:List Tm} (h:CB k l) (e:Ex):Wd k (co l e):=by
 obtain ⟨D,H,h0,h1,h2,h3⟩:=h;obtain ⟨a,b⟩:=(CL.co e h3).size h0;exact ⟨Vf b h2,Vf a h1⟩
theorem eO.wd {n k:Nat} {p q:List Tm} (hp:eO n p) (he:∀ e,G.co p e=G.co q e) (h:CB k q) {t:Tm} (ht:t∈p):Wd k t.2:=by
 rw [<- hp.gh t ht,he];exact h.co _
def XB (E:Int) (q:List Tm):Prop:=∀ t∈q,(∀ x∈t.1,(0:Int)<=x)/\dA t.1<=E
theorem XB.mono {E F:Int} {q:List Tm} (h:XB E q) (hF:E<=F):XB F q:=fun t ht=>⟨(h t ht).1,Vf (h t ht).2 hF⟩
theorem XB.nn {E:Int} {q:List Tm} (h:XB E q):NN q:=fun t ht=>(h t ht).1
theorem XB.nil (E:Int):XB E []:=fun t ht=>by cases ht
theorem XB.append {E:Int} {p q:List Tm} (h:XB E p) (h':XB E q):XB E (p++q):=fun t ht=>(QT.1 ht).elim (h t) (h' t)
theorem XB.neg {E:Int} {p:List Tm} (h:XB E p):XB E (neg p):=fun t ht=>by
 obtain ⟨u,hu,rfl⟩:=Qs.1 ht;exact h u hu
theorem XB.prod {n:Nat} {E F:Int} {p q:List Tm} (lp:Len n p) (lq:Len n q) (h:XB E p) (h':XB F q):XB (E+F) (prod p q):=fun v hv=>by
 obtain ⟨t,ht,hv⟩:=Wp.1 hv;obtain ⟨u,hu,rfl⟩:=Qs.1 hv;refine ⟨fun x hx=>nH (h' u hu).1 (h t ht).1 hx,?_⟩;show dA (bj u.1 t.1)<=_;rw [jF ((lq u hu).trans (lp t ht).symm)];have:=(h t ht).2;have:=(h' u hu).2;omega
theorem XB.of {n:Nat} {E:Int} {p r:List Tm} (h:eO n p) (he:∀ e,co p e=co r e) (hr:XB E r):XB E p:=fun t ht=>by
 obtain ⟨u,hu,e⟩:=h.from he ht;rw [<- e];exact hr u hu
theorem CI:∀ {a:Ex} {i:Nat} (h:i<a.length) (x:Int),dA (a.set i x)=dA a-a[i]+x
 | b :: a,0,_,x=>by simp only [List.set_cons_zero,dA,List.getElem_cons_zero];omega
 | b :: a,i+1,h,x=>by
  have ih:=CI (a:=a) (i:=i) (by simpa using h) x;simp only [List.set_cons_succ,dA,List.getElem_cons_succ,ih];omega
theorem oL:∀ {a:Ex} {x:Int},(∀ y∈a,(0:Int)<=y)->x∈a->x<=dA a
 | b :: a,x,h,hx=>by
  have hb:=h b (Q7 ..);have hs:=kX (a:=a) fun y hy=>h y (Qa _ hy);simp only [dA];rcases Qo.1 hx with e | e
  ·omega
  have:=oL (fun y hy=>h y (Qa _ hy)) e;omega
theorem mem_set {a:Ex} {i:Nat} {x y:Int} (h:∀ z∈a,(0:Int)<=z) (hx:0<=x) (hy:y∈a.set i x):0<=y:=by
 rcases Wl hy with g | g
 ·exact h y g
 omega
theorem eB {a:Ex} {i:Nat} (h:i<a.length):a.getD i 0=a[i]:=by simp [Q6,h]
end Go.Proofs.YtfbgaddecbiimaaGreatDoor.G
end
section
namespace Go.Proofs.YtfbgaddecbiimaaGreatDoor.Q
open Go.RowKit Go.Proofs.YtfbgaddecbiimaaGreatDoorW.PrintWords Go.Proofs.YtfbgaddecbiimaaGreatDoorW.PrintMore Go.Proofs.YtfbgaddecbiimaaGreatDoor.V Go.Proofs.YtfbgaddecbiimaaGreatDoor.E
open Go.Proofs.YtfbgaddecbiimaaGreatDoor.P (Dg Nm vl WW RR bE gI aV jW kL dK aH bC aW cJ cD u64)
open Go.Proofs.YtfbgaddecbiimaaGreatDoor.G (Ex Tm cY co eW fQ eO iW CB XB Wd Len WB)
structure PT (n K M:Nat) (q:List Tm) (l:List ae):Prop where
 len:l.length<=M
 ok:∀ u∈l,su n K u
 srt:fQ n (cT l)
 eqv:eW (cT l) q
structure RT (n K M:Nat) (q:List Tm) (r:List ae):Prop where
 len:r.length<=M
 ok:∀ u∈r,pg n K u
 dst:eO n (cA n r)
 eqv:eW (cA n r) q
theorem su.mono {n K L:Nat} {t:ae} (h:su n K t) (hk:K<=L):su n L t:=⟨h.1,h.2.1,h.2.2.mono hk⟩
theorem PT.to {n K M L N:Nat} {q q':List Tm} {l:List ae} (h:PT n K M q l) (hk:K<=L) (hm:M<=N) (he:eW q q'):PT n L N q' l:=⟨Qu h.len hm,fun u hu=>(h.ok u hu).mono hk,h.srt,h.eqv.trans he⟩
theorem RT.to {n K M L N:Nat} {q q':List Tm} {l:List ae} (h:RT n K M q l) (hk:K<=L) (hm:M<=N) (he:eW q q'):RT n L N q' l:=⟨Qu h.len hm,fun u hu=>(h.ok u hu).mono hk,h.dst,h.eqv.trans he⟩
theorem ry:∀ a,sE a=G.dA a
 | []=>rfl
 | x :: a=>by rw [sE,G.dA,ry a]
theorem Cs {k:Nat} {c:Rat} (h:Wd k c):Sz WW (k+1) c:=by
 have:WB ^ k<WW ^ (k+1):=XJ (by decide) Q2;exact ⟨Wq h.1 this,Wq h.2 this⟩
theorem KF {k:Nat} {c:Rat} (h:Sz WW k c):Wd k c:=⟨Vz h.1,Vz h.2⟩
theorem wb_rr:∀ k:Nat,WB ^ k<=RR ^ (3*k)
 | 0=>by decide
 | k+1=>by
  have h:=wb_rr k;have e:RR ^ (3*(k+1))=RR ^ (3*k)*RR ^ 3:=by rw [<- Va];rfl
  rw [QM,e];exact VI h (by decide) (by decide) (Vz (Vu (by decide)))
theorem Aw {k:Nat} {c:Rat} (h:Wd k c):Sz RR (3*k+1) c:=by
 have h1:=wb_rr k;have h2:RR ^ (3*k)<RR ^ (3*k+1):=XJ (by decide) Q2;exact ⟨by have:=h.1;omega,by have:=h.2;omega⟩
section
variable {n K M L N k:Nat} {q q':List Tm} {l r:List ae} {E:Int}
theorem kq {u:ae} (hu:u∈l):fi u∈cT l:=List.mem_map_of_mem hu
theorem ir {u:ae} (hu:u∈r):iR n u∈cA n r:=List.mem_map_of_mem hu
theorem kr:(cT l).length=l.length:=QZ ..
theorem CE:(cA n r).length=r.length:=QZ ..
theorem PT.fit (h:PT n K M q l) (hc:CB k q):PT n (k+1) M q l:=⟨h.len,fun u hu=>by
 obtain ⟨o1,o2,o3⟩:=h.ok u hu;exact ⟨o1,o2,gB u.2.1,o3.rb.1,Cs (h.srt.dst.wd (fun e=>h.eqv.co e) hc (kq hu))⟩,h.srt,h.eqv⟩
theorem RT.fit (h:RT n K M q r) (hc:CB k q):RT n (3*k+1) M q r:=⟨h.len,fun u hu=>by
 obtain ⟨o1,o2,o3⟩:=h.ok u hu;exact ⟨o1,o2,mL u.2.1,o3.rb.1,Aw (h.dst.wd (fun e=>h.eqv.co e) hc (ir hu))⟩,h.dst,h.eqv⟩
theorem PT.M5 (h:PT n K M q l) (hx:XB E q):XB E (cT l):=XB.of h.srt.dst (fun e=>h.eqv.co e) hx
theorem RT.M5 (h:RT n K M q r) (hx:XB E q):XB E (cA n r):=XB.of h.dst (fun e=>h.eqv.co e) hx
theorem PT.xb (h:PT n K M q l) (hx:XB E q) {u:ae} (hu:u∈l):(∀ x∈u.1,0<=x/\x<=E)/\sE u.1<=E:=by
 obtain ⟨a,b⟩:=h.M5 hx _ (kq hu);have b':G.dA u.1<=E:=b;refine ⟨fun x hx'=>⟨a x hx',Vf (G.oL a hx') b⟩,?_⟩;rw [ry];exact b'
theorem pg.bound {t:ae} (h:pg n K t) {B:Int} (hB:0<=B) (hn:n<=8) (hx:∀ x∈t.1.take n,0<=x/\x<=B) (j:Nat):0<=t.1.getD j 0/\t.1.getD j 0<=B:=by
 rw [h.1,eh,cX _ _ _ (by have:=h.2.1;omega),Q6]
 by_cases c:j<(t.1.take n++List.replicate (8-(t.1.take n).length) 0).length
 ·rw [Qh c];have hm:=Qi c;rw [Option.getD_some];rcases QT.1 hm with g | g
  ·exact hx _ g
  have:=List.eq_of_mem_replicate g;omega
 rw [Vh Q2];exact ⟨Vl _,hB⟩
theorem NT (hn:n<=8) {u:ae} (h:su n K u):ArgM u:=by
 obtain ⟨o1,o2,o3⟩:=h;have hr:=o3.rb.1;exact ⟨Q2,hr.2.1.1,hr.2.2.1,trivial,trivial⟩
theorem PT.arg (h:PT n K M q l) (hn:n<=8) (hM:M<=1000000000):pP ((n:Int),l,()):=⟨by have:=h.len;show l.length<=_;omega,fun u hu=>NT hn (h.ok u hu)⟩
theorem PT.zi (h:PT n K M q l) (hn:n<=8) (hM:M<=1000000000) (hK:K<=1000000000):OX ((n:Int),l,()):=by
 refine ⟨by have:=h.len;show l.length<=_;omega,fun i hi=>?_⟩;have a:i<l.length:=hi;have e:cL ((n:Int),l,()) i=l[i]:=cE a;obtain ⟨o1,o2,o3⟩:=h.ok _ (Qi a);obtain ⟨l1,l2⟩:=iu bC o3.rb.1 o3.rb.2;rw [e];exact ⟨Q2,Q2,Q2⟩
theorem PT.is (h:PT n K M q l) (g:RT n L N q' r) (he:eW q q') (hn:n<=8) (hM:M<=1000000000) (hN:N<=100000) (hK:K<=1000000000) (hL:L<1073741824):Ev (fun k=>fW k ((n:Int),l,()) r (n:Int)) true :=
 Is_of hn h.ok g.ok (h.zi hn hM hK) hL (Qu g.len hN) h.srt g.dst (h.eqv.trans (he.trans g.eqv.symm))
theorem PT.valid (h:PT n K M q l) (hn:n<=8) (hM:M<=4000) (hc:CB 199 q) (hx:XB 40 q):fR ((n:Int),l,()):=by
 have h':=h.fit hc;exact zu hn (Qu h.len hM) (Qn 200) h'.ok h.srt (fun u hu=>(h.xb hx hu).2) (fun u hu e he=>((h.xb hx hu).1 e he).2)
theorem GS (h:PT n K M q l) (hn:n<=8) (hM:M<=4000) (hc:CB 199 q) (hx:XB 40 q):Ev (fun k=>gF k ((n:Int),l,())) (((n:Int),l,()),(0:Int),()):=by
 have e:=ku (h.arg hn Q2);rw [fZ (h.valid hn hM hc hx)] at e;have hl:=h.len;exact Ev.step (fun k=>pz k _) (Ev.bind e (bF rfl (Ev.bind (vI hn Q2 Q2 (h.fit hc).ok) (aV _))))
theorem HU {p p':ay} (ha:pP p) (hb:pP p') (hp:fR p) (hq:fR p') (hn:p.1=p'.1):Ev (fun k=>lG k p p') 0:=by
 have e1:=ku ha;have e2:=ku hb;rw [fZ hp] at e1;rw [fZ hq] at e2;exact Ev.step (fun k=>Bi k _ _) (Ev.bind e1 (Ev.bind (a:=false) (bF rfl (Ev.bind e2 (aV _))) (bF rfl (bF (by simp [hn]) (aV _)))))
end
theorem evu {α:Type} {f:Nat->Option α} {a b:α} (h:Ev f a) (g:Ev f b):a=b:=by
 obtain ⟨K,h⟩:=h;obtain ⟨L,g⟩:=g;have:=(h (max K L) Q2).symm.trans (g (max K L) Q2);exact QF this
open Go.Proofs.YtfbgaddecbiimaaGreatDoor.G (kM)
theorem BS (f:ae->Tm):∀ (l:List ae) (a:Int),-1<=a->(∀ t∈l,G.dA (f t).1=sE t.1)->dgM l a=max a (kM (l.map f))
 | [],a,ha,_=>by show a=max a (-1);omega
 | t :: l,a,ha,h=>by
  have e:=h t Q3;have ih:=BS f l (mx a (sE t.1)) (by unfold mx;split<;>omega) fun u hu=>h u (by simp [hu]);show dgM l (mx a (sE t.1))=max a (max (G.dA (f t).1) (kM (l.map f)));rw [ih,e];unfold mx;split<;>omega
theorem Ox (l:List ae):dgM l (-1)=kM (cT l):=by
 rw [BS fi l (-1) Q2 (fun t _=>(ry _).symm)];have:=G.qT (cT l);show max (-1) (kM (cT l))=_;omega
section
variable {n K M L N k:Nat} {q q':List Tm} {l l' r:List ae} {E F:Int}
theorem pg.sum {t:ae} (h:pg n K t) (hn:n<=8):sE t.1=sE (t.1.take n):=by
 conv=>lhs;rw [h.1]
 exact FO (by have:=h.2.1;omega)
theorem Mp (h:∀ u∈r,pg n K u) (hn:n<=8):dgM r (-1)=kM (cA n r):=by
 rw [BS (iR n) r (-1) Q2 (fun t ht=>by rw [(h t ht).sum hn,ry];rfl)];have:=G.qT (cA n r);show max (-1) (kM (cA n r))=_;omega
theorem XB.kM (h:XB E q) (hE:-1<=E):kM q<=E:=G.qU hE fun t ht=>(h t ht).2
theorem XB.pos (h:XB E q) {t:Tm} (ht:t∈q):0<=E:=Vf (G.kX (h t ht).1) (h t ht).2
theorem XB.bj (h:XB E q) (h':XB F q') (hq:Len n q) (hq':Len n q') {t u:Tm} (ht:t∈q) (hu:u∈q') {B:Int} (hB:E+F<B):∀ e∈G.bj u.1 t.1,0<=e/\e<B:=by
 intro e he;have h0:∀ x∈G.bj u.1 t.1,(0:Int)<=x:=fun x hx=>G.nH (h' u hu).1 (h t ht).1 hx;have h1:=G.oL h0 he;rw [G.jF ((hq' u hu).trans (hq t ht).symm)] at h1;have:=(h t ht).2;have:=(h' u hu).2;exact ⟨h0 e he,Q2⟩
theorem mP (h:∀ u∈r,pg n K u) (hn:n<=8) (hl:r.length<=1000000000) (hx:XB E (cA n r)) (hE:E<=1000000):Ev (fun k=>ba k r) (kM (cA n r)):=by
 rw [<- Mp h hn];have main:=pS (n:=r.length) (P:=fun i=>∀ x:Int,aL (fun k m=>ba.l0 k m x r (r.length:Int) (i:Int)) (dgM (r.drop i) x)) ?_ ?_ 0 (Qy _) (-1)
 ·exact Ev.step (fun k=>jh k r) main.diag
 ·intro x;rw [V2];exact aL.step (fun k m=>ba.aN k m _ _ _ _) (aL.bF (Q8 Q2) (aL.of (aV _)))
 intro i hi ih x;have e:(cH (t:=ab) r (i:Int):ae)=r[i]:=cE hi;have hm:=Qi hi;obtain ⟨a,b⟩:=hx _ (ir hm);have c:0<=E:=XB.pos hx (ir hm);refine aL.step (fun k m=>ba.aN k m _ _ _ _) (aL.bT (Qb Q2) (aL.iT Q2 ?_));rw [e,eJ hi];refine aL.bind (kZ _ (h _ hm).len (fun x hx'=>?_)) ?_
 ·obtain ⟨j,hj,rfl⟩:=QL hx';have:=(h _ hm).bound c hn (fun x hx'=>⟨a x hx',Vf (G.oL a hx') b⟩) j;rw [G.eB hj] at this;omega
 rw [fY Q2];exact ih _
theorem gt0 {l:List ae} (h:l≠[]):decide ((List.length l:Int)>(0:Int))=true:=Qb (by have:=Wj.2 h;omega)
theorem H5 {l:List ae} (h:l=[]):decide ((List.length l:Int)>(0:Int))=false:=by subst h;rfl
theorem Gh (h:PT n K M q l) (h':PT n L N q' l') (hx:XB E q) (hx':XB F q') (hq:Len n q) (hq':Len n q') (hn:n<=8) (hE:E+F<256) (hMN:M*N<=60000) (hM:M<=60000) (hN:N<=60000) (hKL:K+L<3000):∃ r,Ev (fun k=>gn k ((n:Int),l,()) ((n:Int),l',())) ((n:Int),r,())/\PT n (60000*(L+K+1)) (M*N) (G.prod q q') r:=by
 have a:l.length*l'.length<=M*N:=Y1 h.len h'.len;obtain ⟨r,r1,r2,r3,r4,r5⟩:=Gg hn (Qu h.len hM) (Qu h'.len hN) (Qu a hMN) hKL h.ok h'.ok (fun u hu t ht=>XB.bj (h.M5 hx) (h'.M5 hx') h.srt.len h'.srt.len (kq ht) (kq hu) hE);exact ⟨r,r1,Qu r2 a,fun u hu=>(r3 u hu).mono (QJ _ (Qu a hMN)),r4,r5.trans (h.eqv.prod h'.eqv)⟩
theorem F9 (h:PT n K M q l) (h':PT n L N q' l') (hx:XB E q) (hx':XB F q') (hq:Len n q) (hq':Len n q') (hn:n<=8) (hE:E+F<=40) (hMN:M*N<=4000) (hM:M<=4000) (hN:N<=4000) (hKL:K+L<3000) {j:Nat} (hc:CB j (G.prod q q')) (hj:j<=199):∃ r,Ev (fun k=>oF k ((n:Int),l,()) ((n:Int),l',())) (((n:Int),r,()),(0:Int),())/\PT n (j+1) (M*N) (G.prod q q') r:=by
 obtain ⟨r,r1,r2⟩:=Gh h h' hx hx' hq hq' hn Q2 Q2 Q2 Q2 hKL;have d:=GS r2 hn hMN (hc.mono hj) ((XB.prod hq hq' hx hx').mono hE);refine ⟨r,?_,r2.fit hc⟩;have b:Ev (fun k=>(gn k ((n:Int),l,()) ((n:Int),l',())).bind fun g=>(gF k g).bind fun f=>some (f.1,f.2.1,())) (((n:Int),r,()),(0:Int),()):=Ev.bind r1 (Ev.bind d (aV _));have l1:=h.len;have l2:=h'.len
 by_cases c:l=[]
 ·exact Ev.step (fun k=>kP k _ _) (Ev.bind (a:=false) (bF (H5 c) (aV _)) (Ev.bind (a:=false) (bF rfl (aV _)) (bF rfl b)))
 by_cases c':l'=[]
 ·exact Ev.step (fun k=>kP k _ _) (Ev.bind (a:=false) (bT (gt0 c) (by rw [H5 c'];exact aV _)) (Ev.bind (a:=false) (bF rfl (aV _)) (bF rfl b)))
 have e1:=se hn Q2 h.ok;have e2:=se hn Q2 h'.ok;rw [Ox] at e1 e2;have m1:=G.qT (cT l);have m2:=G.qT (cT l');obtain ⟨u,hu⟩:=Y5 l c;obtain ⟨u',e⟩:=Y5 l' c';have b1:=XB.kM (h.M5 hx) (by have:=XB.pos (h.M5 hx) (kq hu);omega);have b2:=XB.kM (h'.M5 hx') (by have:=XB.pos (h'.M5 hx') (kq e);omega);refine Ev.step (fun k=>kP k _ _) (Ev.bind (a:=true) (bT (gt0 c) (by rw [gt0 c'];exact aV _)) (Ev.bind (a:=false) (bT rfl (Ev.bind e1 (Ev.bind e2 ?_))) (bF rfl b)));rw [cD Q2 Q2];exact tk Q2
end
open Go.Proofs.YtfbgaddecbiimaaGreatDoor.G (fk)
theorem cmp3:∀ {a b:List Int},a.length=b.length->cZ a b=if G.fa a b=true then 1 else if G.fa b a=true then -1 else 0
 | [],[],_=>rfl
 | [],_ :: _,h=>by simp at h
 | _ :: _,[],h=>by simp at h
 | x :: a,y :: b,h=>by
  have ih:=cmp3 (a:=a) (b:=b) (by simpa using h);have e1:G.fa (x :: a) (y :: b)=if x=y then G.fa a b else decide (x>y):=rfl;have e2:G.fa (y :: b) (x :: a)=if y=x then G.fa b a else decide (y>x):=rfl
  by_cases e:x=y
  ·rw [Qk e] at e1;rw [Qk e.symm] at e2;rw [e1,e2,<- ih];simp only [cZ,Qk e]
  rw [Qc e] at e1;rw [Qc (fun h=>e h.symm)] at e2;rw [e1,e2];simp only [cZ,Qc e,Vc]
  by_cases g:x<y
  ·rw [Qk g,Qc Q2,Qk Q2]
  rw [Qc g,Qk Q2]
section
variable {n K M L N k:Nat} {q q':List Tm} {l l' r:List ae} {E F:Int}
theorem sgn_nz {x:Rat} (h:x=0):(FL x != (0:Int))=false:=by rw [AQ];exact eK (fun g=>g h)
theorem Nq {x:Rat} (h:¬ x=0):(FL x != (0:Int))=true:=by rw [AQ];exact fZ h
theorem Ki (t:Tm) (p:List Tm):fk (t :: p) []=t :: fk p []:=by rw [G.rh,G.rh]
theorem Hh (u:Tm) (q:List Tm):fk [] (u :: q)=u :: fk [] q:=by rw [fk,fk]
theorem OQ {t u:Tm} {p q:List Tm} (h:G.fa t.1 u.1=true):fk (t :: p) (u :: q)=t :: fk p (u :: q):=by rw [fk,Qk h]
theorem OP {t u:Tm} {p q:List Tm} (h:¬ G.fa t.1 u.1=true) (h':G.fa u.1 t.1=true):fk (t :: p) (u :: q)=u :: fk (t :: p) q:=by rw [fk,Qc h,Qk h']
theorem OO {t u:Tm} {p q:List Tm} (h:¬ G.fa t.1 u.1=true) (h':¬ G.fa u.1 t.1=true) (z:t.2+u.2=0):fk (t :: p) (u :: q)=fk p q:=by rw [fk,Qc h,Qc h',Qk z]
theorem OR {t u:Tm} {p q:List Tm} (h:¬ G.fa t.1 u.1=true) (h':¬ G.fa u.1 t.1=true) (z:¬ t.2+u.2=0):fk (t :: p) (u :: q)=(t.1,t.2+u.2) :: fk p q:=by rw [fk,Qc h,Qc h',Qc z]
end
open Go.Proofs.YtfbgaddecbiimaaGreatDoor.G (kU)
theorem Gv {z:Int} (d:-1000000000<=z) (e:z<=1000000000):∃ r,Ev (fun k=>Bv k z) r/\RB WW r (z:Rat)/\Sz WW 1 (z:Rat):=by
 have hs:Sz WW 1 (z:Rat):=by
  refine ⟨?_,by rw [Rat.den_intCast];decide⟩;rw [Rat.num_intCast,QM,WO];show (z.natAbs:Int)<1*4294967296;omega
 by_cases c:z<0
 ·obtain ⟨x,x1,x2⟩:=P.gD (a:=-z) Q2 Q2;have hx:x.length<1073741824:=by
   have:=x2.gy bC (k:=1) (by rw [QM,WO];show -z<1*4294967296;omega);omega
  obtain ⟨r,r1,r2⟩:=jA (s:=true) (a:=x) (b:=[1]) hx Q3 x2 (J9 bC) (by decide);refine ⟨r,Ev.step (fun k=>xW k z) (bT (Qb c) (Ev.bind (Ev.step (fun k=>vR k _) ?_) (Ev.bind r1 (aV _)))),?_,hs⟩
  ·rw [cD (x:=z+1) Q2 Q2,cD Q2 Q2,u64 (x:=-(z+1)) Q2 Q2,u64 Q2 Q2,show -(z+1)+1 = -z by omega];exact x1
  rw [yI] at r2;rw [show z=sg true (-z) by simp [sg]];exact r2
 obtain ⟨x,x1,x2⟩:=P.gD (a:=z) Q2 Q2;have hx:x.length<1073741824:=by
  have:=x2.gy bC (k:=1) (by rw [QM,WO];show z<1*4294967296;omega);omega
 obtain ⟨r,r1,r2⟩:=jA (s:=false) (a:=x) (b:=[1]) hx Q3 x2 (J9 bC) (by decide);refine ⟨r,Ev.step (fun k=>xW k z) (bF (Q8 c) (Ev.bind (Ev.step (fun k=>vR k _) ?_) (Ev.bind r1 (aV _)))),?_,hs⟩
 ·rw [u64 Q2 Q2];exact x1
 rw [yI] at r2;exact r2
theorem My {B:Int} (hB:1<B) {x:List Int} {z:Int} {s:Bool} (hs:s=decide (z<0)) (h:P.Can B x (z.natAbs:Int)):RB B (s,x,[1],()) (z:Rat):=⟨by rw [Rat.num_intCast];exact hs,by rw [Rat.num_intCast];exact h,by rw [Rat.den_intCast];exact J9 hB⟩
theorem FX {z:Int} (b:-1000000000<=z) (d:z<=1000000000):∃ r,Ev (fun k=>ju k z) r/\RB RR r (z:Rat)/\Sz RR 3 (z:Rat):=by
 have hs:Sz RR 3 (z:Rat):=by
  refine ⟨?_,by rw [Rat.den_intCast];decide⟩;rw [Rat.num_intCast];show (z.natAbs:Int)<10000 ^ 3;omega
 by_cases c:z<0
 ·obtain ⟨x,x1,x2⟩:=s_Int (a:=-z) Q2 Q2;refine ⟨_,Ev.step (fun k=>jY k z) (bT (Qb c) ?_),My cJ (s:=true) (Qb c).symm (by rw [show (z.natAbs:Int) = -z by omega];exact x2),hs⟩;rw [cD Q2 Q2];exact Ev.bind x1 (aV _)
 obtain ⟨x,x1,x2⟩:=s_Int (a:=z) Q2 Q2;exact ⟨_,Ev.step (fun k=>jY k z) (bF (Q8 c) (Ev.bind x1 (aV _))),My cJ (s:=false) (Q8 c).symm (by rw [show (z.natAbs:Int)=z by omega];exact x2),hs⟩
theorem fQ.kU {n:Nat} {p:List Tm} (h:fQ n p) {c:Rat} (hc:c≠0):fQ n (kU c p):=by
 refine ⟨VK.2 h.ord,fun t ht=>?_,fun t ht=>?_⟩
 ·obtain ⟨u,hu,rfl⟩:=Qs.1 ht;exact fun e=>(VB.1 e).elim (h.nz u hu) hc
 obtain ⟨u,hu,rfl⟩:=Qs.1 ht;exact h.len u hu
section
variable {n K M L N k:Nat} {q q':List Tm} {l l' r:List ae} {E F:Int}
theorem Hz (p:List Tm):eW (kU ((-1:Int):Rat) p) (G.neg p):=fun m=>by
 rw [G.jO,G.jn];grind
theorem Dd {l l':List ae} (h:RT n K M q l) (h':RT n L N q' l') (hn:n<=8) (hMN:M+N<=100000) (hKL:K+(N+1)*(L+1)<1000000):∃ r,Ev (fun k=>cI k l l') r/\RT n (K+N*(L+1)) (M+N) (q++q') r:=by
 have hm:=h.len;have f:=h'.len;have hN:∀ i,i<=l'.length->i*(L+1)<=N*(L+1):=fun i hi=>QJ _ Q2;have g:(N+1)*(L+1)=N*(L+1)+(L+1):=Vi _ _;have a:=pS (n:=l'.length) (P:=fun i=>∀ acc:List ae,acc.length<=M+i->(∀ t∈acc,pg n (K+i*(L+1)) t)->∃ r:List ae,aL (fun k m=>cI.l0 k m l' (l'.length:Int) (i:Int) acc) r/\cA n r=G.canon (cA n (l'.drop i)) (cA n acc)/\(∀ t∈r,pg n (K+N*(L+1)) t)/\r.length<=M+N) ?_ ?_ 0 (Qy _) l Q2 (fun t ht=>(h.ok t ht).mono Q2)
 ·obtain ⟨r,r1,r2,r3,r4⟩:=a;obtain ⟨c1,c2⟩:=G.o9 h.dst h'.dst.len;rw [V9] at r2;rw [<- r2] at c1 c2;refine ⟨r,Ev.step (fun k=>pD k _ _) (iT (by simp only [List.length_nil];omega) r1.diag),r4,r3,c1,fun m=>?_⟩;rw [c2,G.cF,h.eqv,h'.eqv]
 ·intro acc ha ho;exact ⟨acc,aL.step (fun k m=>cI.aN k m _ _ _ _) (aL.bF (Q8 Q2) (aL.of (aV _))),by rw [V2];rfl,fun t ht=>(ho t ht).mono (by have:=hN _ (Qn _);omega),Q2⟩
 intro i hi ih acc ha ho;have e:(cH (t:=ab) l' (i:Int):ae)=l'[i]:=cE hi;obtain ⟨p1,p2,p3⟩:=h'.ok l'[i] (Qi hi);have d:=hN (i+1) hi;have b:(i+1)*(L+1)=i*(L+1)+(L+1):=Vi _ _;obtain ⟨s,s1,s2,s3,s4⟩:=xA (e:=l'[i].1.take n) (c:=l'[i].2.1) hn Q2 Q2 ho p2 p3.rb.1 p3.rb.2;rw [<- p1] at s1;obtain ⟨r,r1,r2,r3⟩:=ih s Q2 (fun t ht=>(s3 t ht).mono Q2);refine ⟨r,aL.step (fun k m=>cI.aN k m _ _ _ _) (aL.bT (Qb Q2) (aL.iT Q2 ?_)),?_,r3⟩
 ·rw [e];refine aL.bind s1 ?_;rw [fY Q2];exact r1
 rw [r2,eJ hi,s2];rfl
theorem y6 {l:List ae} {v:bA} {p:Rat} (h:RT n K M q l) (hv:RB RR v p) (hp:Sz RR L p) (hn:n<=8) (hM:M<=100000) (hKL:(M+1)*(K+L+1)<1000000):∃ r,Ev (fun k=>cn k l v) r/\RT n (M*(K+L+1)) M (kU p q) r:=by
 have hm:=h.len;have hN:∀ i,i<=l.length->i*(K+L+1)<=M*(K+L+1):=fun i hi=>QJ _ Q2;have g:(M+1)*(K+L+1)=M*(K+L+1)+(K+L+1):=Vi _ _;have a:=pS (n:=l.length) (P:=fun i=>∀ acc:List ae,acc.length<=i->(∀ t∈acc,pg n (i*(K+L+1)) t)->∃ r:List ae,aL (fun k m=>cn.l0 k m l (l.length:Int) (i:Int) v acc) r/\cA n r=G.canon (kU p (cA n (l.drop i))) (cA n acc)/\(∀ t∈r,pg n (M*(K+L+1)) t)/\r.length<=M) ?_ ?_ 0 (Qy _) [] Q3 (fun t ht=>by cases ht)
 ·obtain ⟨r,r1,r2,r3,r4⟩:=a;obtain ⟨c1,c2⟩:=G.o9 (eO.nil n) (Len.kU h.dst.len p);rw [List.drop_zero] at r2;have b:cA n r=G.canon (kU p (cA n l)) []:=r2;rw [<- b] at c1 c2;refine ⟨r,Ev.step (fun k=>nP k _ _) r1.diag,r4,r3,c1,fun m=>?_⟩;rw [c2];show 0+_=_;rw [(h.eqv.kU p) m];grind
 ·intro acc ha ho;exact ⟨acc,aL.step (fun k m=>cn.aN k m _ _ _ _ _) (aL.bF (Q8 Q2) (aL.of (aV _))),by rw [V2];rfl,fun t ht=>(ho t ht).mono (by have:=hN _ (Qn _);omega),Q2⟩
 intro i hi ih acc ha ho;have e:(cH (t:=ab) l (i:Int):ae)=l[i]:=cE hi;obtain ⟨p1,p2,p3⟩:=h.ok l[i] (Qi hi);have f:=hN (i+1) hi;have d:(i+1)*(K+L+1)=i*(K+L+1)+(K+L+1):=Vi _ _;obtain ⟨w,w1,w2,w3⟩:=sI p3.rb.1 hv p3.rb.2 hp Q2;obtain ⟨s,s1,s2,s3,s4⟩:=xA (e:=l[i].1.take n) (c:=w) hn Q2 Q2 ho p2 w2 w3;rw [<- p1] at s1;obtain ⟨r,r1,r2,r3⟩:=ih s Q2 (fun t ht=>(s3 t ht).mono Q2);refine ⟨r,aL.step (fun k m=>cn.aN k m _ _ _ _ _) (aL.bT (Qb Q2) (aL.iT Q2 ?_)),?_,r3⟩
 ·rw [e];refine aL.bind w1 (aL.bind s1 ?_);rw [fY Q2];exact r1
 rw [r2,eJ hi,s2];rfl
theorem Dc {l l':List ae} (h:RT n K M q l) (h':RT n L N q' l') (hn:n<=8) (hMN:M+N<=100000) {j:Nat} (hj:CB j q') (hL:(N+1)*(L+4)<1000000) (hKL:K+(N+1)*(3*j+2)<1000000):∃ r,Ev (fun k=>jt k l l') r/\RT n (K+N*(3*j+2)) (M+N) (q++G.neg q') r:=by
 obtain ⟨v,v1,v2,v3⟩:=FX (z:=-1) Q2 Q2;obtain ⟨s,s1,s2⟩:=y6 h' v2 v3 hn Q2 (show (N+1)*(L+3+1)<1000000 by omega);have s3:=(s2.to (Qn _) (Qn _) (Hz q')).fit hj.neg;obtain ⟨r,r1,r2⟩:=Dd h s3 hn hMN hKL;exact ⟨r,Ev.step (fun k=>pC k _ _) (Ev.bind v1 (Ev.bind s1 (Ev.bind r1 (aV _)))),r2⟩
end
section
variable {p:ay}
theorem Cf.okT {n a c:Nat} (hs:Cf p a c) (hn:p.1=(n:Int)):∀ u∈p.2.1,su n c u:=by
 obtain ⟨m,m8,mn,mo⟩:=Cw hs.ok;obtain rfl:m=n:=Q2;intro u hu;obtain ⟨o1,o2,o3⟩:=mo u hu;obtain ⟨i,hi,rfl⟩:=QL hu;have e:cL p i=p.2.1[i]:=cE hi;have b:=hs.short i hi;rw [e] at b;exact ⟨o1,o2,_,o3.rb.1,CG aH o3.rb.1 b.1 b.2⟩
theorem Kv {n:Nat} (hv:fR p) (hn:p.1=(n:Int)) {b:Int} (hb:kM (cT p.2.1)<=b):XB b (cT p.2.1):=fun t ht=>by
 refine ⟨?_,Vf (G.kf ht) hb⟩;obtain ⟨u,hu,rfl⟩:=Qs.1 ht;obtain ⟨m,m8,mn,mo⟩:=Cw hv;exact fun x hx=>((mo u hu).2.1 x hx).1
theorem Fi {n:Nat} (hv:fR p) (hn:p.1=(n:Int)):XB 40 (cT p.2.1):=fun t ht=>by
 obtain ⟨u,hu,rfl⟩:=Qs.1 ht;obtain ⟨i,hi,rfl⟩:=QL hu;have g:=(hv.good i hi).1;rw [show cL p i=p.2.1[i] from cE hi] at g;exact ⟨fun x hx=>(g.ex x hx).1,by have:=g.sum;rw [ry] at this;exact this⟩
theorem y8 (ha:pP p) {a c:Nat} (hs:Cf p a c) (b:Int):Ev (fun k=>bg k p (a:Int) b (c:Int)) (decide (kM (cT p.2.1)<=b)):=by
 have f:=ha.1;have hv:=hs.ok;have h0:=hv.n0;have h8:=hv.n8;have hf:=hv.zi;have g:=hs.zi;have hn:p.1=((p.1.toNat:Nat):Int):=Q2;obtain ⟨r,r1,r2,r3,r4⟩:=H0 ha hv hn;have hd:=mP r3 Q2 Q2 (by rw [r4];exact Fi hv hn) Q2;rw [r4] at hd;have d:=mO ha;rw [fZ hv] at d;have main:=pS (n:=p.2.1.length) (P:=fun i=>aL (fun k m=>bg.l0 k m b (c:Int) p.2.1 (p.2.1.length:Int) (i:Int) p) (decide (kM (cT p.2.1)<=b))) ?_ ?_ 0 (Qy _)
 ·exact Ev.step (fun k=>eI k p _ _ _) (Ev.bind (a:=false) (bF (Q8 Q2) (tk Q2)) (Ev.bind (a:=false) (bF rfl (tk Q2)) (bF rfl main.diag)))
 ·exact aL.step (fun k m=>bg.aN k m _ _ _ _ _ _) (aL.bF (Q8 Q2) (aL.of (Ev.bind d (Ev.bind (bT rfl (Ev.bind r1 (Ev.bind hd (aV _)))) (aV _)))))
 intro i hi ih;have e:Ev (fun k=>dC k (cL p i).2.1 (c:Int)) _:=oD (cL p i).2.1 c;rw [Qb (hs.short i hi)] at e;refine aL.step (fun k m=>bg.aN k m _ _ _ _ _ _) (aL.bT (Qb Q2) (aL.iT Q2 (aL.bind e (aL.bF rfl ?_))));rw [fY Q2];exact ih
end
structure SmP (p:ay) (n a c:Nat) (b:Int):Prop where
 n8:n<=8
 eq:p=((n:Int),p.2.1,())
 ok:fR p
 arg:pP p
 pt:PT n c a (cT p.2.1) p.2.1
 cb:CB (a*(c+1)) (cT p.2.1)
 xb:XB b (cT p.2.1)
theorem cb_few {a c:Nat} {l:List Tm} (hl:l.length<=a) (h:∀ t∈l,Wd c t.2):CB (a*(c+1)) l:=(CB.list h).mono (QJ _ hl)
theorem zv {p:ay} (ha:pP p) (a c:Nat) (b:Int):∃ t,Ev (fun k=>bg k p (a:Int) b (c:Int)) t/\(t=true->∃ n,SmP p n a c b):=by
 obtain ⟨t,t1,t2⟩:=Ba ha a c b;refine ⟨t,t1,fun h=>?_⟩;have hs:=t2 h;have hv:=hs.ok;have h0:=hv.n0;have h8:=hv.n8;have hn:p.1=((p.1.toNat:Nat):Int):=Q2;have hd:=evu t1 (y8 ha hs b);rw [h] at hd;have hd:=VE hd.symm;have d:=hs.okT hn;have e:PT p.1.toNat c a (cT p.2.1) p.2.1:=⟨hs.zi,d,I0 hv hn,.refl _⟩;refine ⟨p.1.toNat,Q2,by rw [<- hn],hv,ha,e,cb_few (by rw [kr];exact hs.zi) (fun t ht=>?_),Kv hv hn hd⟩;obtain ⟨u,hu,rfl⟩:=Qs.1 ht;exact KF (d u hu).2.2.rb.2
section
variable {p p':ay} {n a c:Nat} {b:Int}
theorem SmP.rte (h:SmP p n a c b):∃ r,Ev (fun k=>bQ k p) r/\RT n (3*c+1) a (cT p.2.1) r/\cA n r=cT p.2.1:=by
 have hn:p.1=(n:Int):=by rw [h.eq]
 obtain ⟨r,r1,r2,r3,r4⟩:=H0 h.arg h.ok hn;refine ⟨r,r1,⟨by rw [r2];exact h.pt.len,fun u hu=>?_,by rw [r4];exact h.pt.srt.dst,by rw [r4];exact .refl _⟩,r4⟩;obtain ⟨o1,o2,o3⟩:=r3 u hu;have hm:=ir (n:=n) hu;rw [r4] at hm;obtain ⟨w,hw,e⟩:=Qs.1 hm;have e2:gB w.2.1=mL u.2.1:=congrArg Prod.snd e;have hz:=(h.pt.ok w hw).2.2.rb.2;rw [e2] at hz;exact ⟨o1,o2,_,o3.rb.1,Aw (KF hz)⟩
end
end Go.Proofs.YtfbgaddecbiimaaGreatDoor.Q
end
section
namespace Go.Proofs.YtfbgaddecbiimaaGreatDoor.G
def Cy (n i:Nat) (c:Int):Ex:=(List.replicate n 0).set i c
theorem Nr {n i:Nat} {a:Ex} (ha:a.length=n) (hi:i<n) (c:Int):a.set i (a.getD i 0+c)=bj a (Cy n i c):=by
 apply QP (by simp [bj,Cy,ha]);intro j h1 h2;have hj:j<a.length:=by simpa using h1
 simp only [bj,Cy,WR,VU,Xp]
 by_cases e:i=j
 ·subst e;rw [Qk rfl,Qk rfl,eB hj]
 rw [Qc e,Qc e,Ve]
def ms (n:Nat):List Ex->Nat->List Ex
 | [],0=>[zE n]
 | [],_+1=>[]
 | _ :: _,0=>[zE n]
 | e :: es,j+1=>(ms n (e :: es) j).map (bj e)++ms n es (j+1)
def Fa:Nat->Nat->Nat
 | 0,0=>1
 | 0,_+1=>0
 | _+1,0=>1
 | r+1,j+1=>Fa (r+1) j+Fa r (j+1)
theorem Gy (n:Nat):∀ (es:List Ex) (j:Nat),(ms n es j).length=Fa es.length j
 | [],0=>by simp [ms,Fa]
 | [],_+1=>by simp [ms,Fa]
 | _ :: _,0=>by simp [ms,Fa]
 | e :: es,j+1=>by
  have h1:=Gy n (e :: es) j;have h2:=Gy n es (j+1);simp only [List.length_cons] at h1;simp only [ms,Qf,QZ,List.length_cons,Fa,h1,h2]
theorem wJ (n:Nat) (es:List Ex):ms n es 0=[zE n]:=by cases es<;>simp [ms]
theorem Bz (n:Nat):∀ (es:List Ex) (j:Nat) (x e:Ex),x∈ms n es j->e∈es->bj x e∈ms n es (j+1)
 | [],_,_,_,_,h=>by cases h
 | a :: es,0,x,e,hx,he=>by
  rw [wJ,QB] at hx;rw [ms];rcases Qo.1 he with rfl | he
  ·exact Ww _ (Qs.2 ⟨x,by rw [wJ,hx];exact QB.2 rfl,fK ..⟩)
  exact WK _ (Bz n es 0 x e (by rw [wJ,hx];exact QB.2 rfl) he)
 | a :: es,j+1,x,e,hx,he=>by
  rw [ms];rcases Qo.1 he with rfl | he'
  ·exact Ww _ (Qs.2 ⟨x,hx,fK ..⟩)
  rw [ms] at hx;rcases QT.1 hx with hx | hx
  ·obtain ⟨y,hy,rfl⟩:=Qs.1 hx;rw [l7];exact Ww _ (Qs.2 ⟨_,Bz n (a :: es) j y e hy he,rfl⟩)
  exact WK _ (Bz n es (j+1) x e hx he')
theorem BL:∀ {l:List Ex} {S:List Ex},l.Pairwise (·≠·)->(∀ x∈l,x∈S)->l.length<=S.length
 | [],_,_,_=>Qy _
 | x :: l,S,h,hS=>by
  obtain ⟨a,b,rfl⟩:=List.append_of_mem (hS x (Q7 ..));obtain ⟨h1,h2⟩:=Qv.1 h;have:=BL (l:=l) (S:=a++b) h2 fun y hy=>by
   have hne:x≠y:=h1 y hy;rcases QT.1 (hS y (Qa _ hy)) with g | g
   ·exact Ww _ g
   rcases Qo.1 g with g | g
   ·exact absurd g.symm hne
   exact WK _ g
  simp only [List.length_cons,Qf] at this ⊢;omega
theorem eO.zi {n:Nat} {p r:List Tm} (h:eO n p) (he:∀ e,co p e=co r e) {S:List Ex} (hS:∀ t∈r,t.1∈S):p.length<=S.length:=by
 have:=BL (l:=p.map (·.1)) (S:=S) (VK.2 h.ne) fun x hx=>by
  obtain ⟨t,ht,rfl⟩:=Qs.1 hx;obtain ⟨u,hu,e⟩:=h.from he ht;rw [<- e];exact hS u hu
 rwa [QZ] at this
theorem G8:∀ {r s:Nat} (j:Nat),r<=s->Fa r j<=Fa s j
 | 0,0,j,_=>Qn _
 | 0,s+1,0,_=>by simp [Fa]
 | 0,s+1,j+1,_=>by simp [Fa]
 | r+1,0,_,h=>Q2
 | r+1,s+1,0,_=>by simp [Fa]
 | r+1,s+1,j+1,h=>by
  have h1:=G8 (r:=r+1) (s:=s+1) j h;have h2:=G8 (r:=r) (s:=s) (j+1) Q2;simp only [Fa];omega
def CF (D g:Ex->Int):Int->List Tm->Prop
 | H,[]=>0<=H
 | H,t :: l=>∃ z:Int,t.2*(D t.1:Rat)=(z:Rat)/\CF D g (H-z.natAbs*g t.1) l
section
variable {D g:Ex->Int}
theorem CF.mono:∀ {l:List Tm} {H H':Int},CF D g H l->H<=H'->CF D g H' l
 | [],H,H',h,hh=>Vf h hh
 | t :: l,H,H',⟨z,h1,h2⟩,hh=>⟨z,h1,h2.mono Q2⟩
theorem IX (hg:∀ e,0<=g e) (z:Int) (e:Ex):0<=(z.natAbs:Int)*g e:=QX Q2 (hg e)
theorem CF.pos (hg:∀ e,0<=g e):∀ {l:List Tm} {H:Int},CF D g H l->0<=H
 | [],H,h=>h
 | t :: l,H,⟨z,h1,h2⟩=>by have:=h2.pos hg;have:=IX hg z t.1;omega
theorem CF.append (hg:∀ e,0<=g e):∀ {p q:List Tm} {H H':Int},CF D g H p->CF D g H' q->CF D g (H+H') (p++q)
 | [],q,H,H',h,h'=>h'.mono (by have:0<=H:=h;omega)
 | t :: p,q,H,H',⟨z,h1,h2⟩,h'=>⟨z,h1,(h2.append hg h').mono Q2⟩
theorem CF.perm {H:Int} {p q:List Tm} (hp:p.Perm q) (h:CF D g H p):CF D g H q:=by
 induction hp generalizing H with
 | nil=>exact h
 | cons t _ ih=>obtain ⟨z,h1,h2⟩:=h;exact ⟨z,h1,ih h2⟩
 | swap a b l =>
  obtain ⟨z,h1,y,h2,h3⟩:=h;exact ⟨y,h2,z,h1,h3.mono Q2⟩
 | trans _ _ i1 i2=>exact i2 (i1 h)
theorem CF.put (hg:∀ e,0<=g e) {H z:Int} {p:List Tm} {e:Ex} {c:Rat} (h:CF D g H p) (hc:c*(D e:Rat)=(z:Rat)):CF D g (H+z.natAbs*g e) (iW p e c):=by
 have hz:=IX hg z e;unfold iW;split
 ·exact h.mono Q2
 split
 ·exact h.append hg ⟨z,hc,by show 0<=_;dsimp only;omega⟩
 rename_i i hs;obtain ⟨hi,hx,_⟩:=WL.1 hs;obtain ⟨a,b,e1,e2⟩:=BX hi;have d:p.getD i ([],0)=p[i]:=by simp [Q6,hi]
 have f:p[i].1=e:=by simpa using hx
 rw [d];generalize p[i]=x at *
 subst e1;have hp:(a++x :: b).Perm (x :: (a++b)):=WV;obtain ⟨y,h1,h2⟩:=h.perm hp;rw [f] at h1 h2;have hy:=IX hg y e;split
 ·have hq:=Am a b x ([],0);rw [e2] at hq;exact (h2.perm hq.symm).mono Q2
 rw [<- e2,wG];have hp':(a++(e,x.2+c) :: b).Perm ((e,x.2+c) :: (a++b)):=WV;have j:((y+z).natAbs:Int)*g e<=y.natAbs*g e+z.natAbs*g e:=by
  rw [<- WN];exact QQ Q2 (hg e)
 refine CF.perm hp'.symm ⟨y+z,?_,h2.mono (by dsimp only;omega)⟩;show (x.2+c)*_=_;rw [Rat.intCast_add,<- h1,<- hc];grind
theorem EV (hg:∀ e,0<=g e):∀ {p acc:List Tm} {H H':Int},CF D g H acc->CF D g H' p->CF D g (H+H') (canon p acc)
 | [],acc,H,H',h,h'=>h.mono (by have:0<=H':=h';omega)
 | t :: p,acc,H,H',h,⟨z,h1,h2⟩=>by
  have:=EV hg (CF.put hg (e:=t.1) h h1) h2;exact this.mono Q2
theorem eO.CF {n:Nat} {H:Int} {p r:List Tm} (hg:∀ e,0<=g e) (h:eO n p) (hr:Len n r) (he:∀ e,G.co p e=G.co r e) (hc:CF D g H r):CF D g H p:=by
 obtain ⟨h1,h2⟩:=o9 (eO.nil n) hr;have h3:G.CF D g (0+H) (canon r []):=EV hg (H:=0) (by show (0:Int)<=0;decide) hc;have h4:p.Perm (canon r []):=h.wH h1 fun e=>by
  rw [he];have:=h2 (dl e);simp only [cY] at this;show _=cY (dl e) (canon r []);rw [this];show cY (dl e) r=_;grind
 exact (h3.mono Q2).perm h4.symm
theorem CF.mem (hg:∀ e,0<=g e):∀ {p:List Tm} {H:Int},CF D g H p->∀ t∈p,∃ z:Int,t.2*(D t.1:Rat)=(z:Rat)/\z.natAbs*g t.1<=H
 | [],H,_,t,ht=>by simp at ht
 | u :: p,H,⟨z,h1,h2⟩,t,ht=>by
  rcases Qo.1 ht with e | e
  ·rw [e];exact ⟨z,h1,by have:=h2.pos hg;omega⟩
  obtain ⟨y,a,b⟩:=h2.mem hg t e;exact ⟨y,a,by have:=IX hg z u.1;omega⟩
end
def YL (β:Int) (u:Rat):Int->List Tm->Prop
 | E,[]=>0<=E
 | E,t :: l=>∃ y:Int,t.2*(β:Rat)=(y:Rat)*u/\YL β u (E-y.natAbs) l
theorem YL.of {D:Int} {u:Rat} {z:Int} (hu:u*(D:Rat)=(z:Rat)) (hD:(D:Rat)≠0):∀ {l:List Tm} {H:Int},CL D H l->YL (z.natAbs:Int) u H l
 | [],H,h=>h
 | t :: l,H,⟨y,h1,h2⟩=>by
  have ih:=YL.of hu hD h2
  by_cases c:0<=z
  ·refine ⟨y,?_,ih⟩;rw [show ((z.natAbs:Nat):Int)=z by omega,<- hu,<- h1];grind
  refine ⟨-y,?_,by rw [Int.natAbs_neg];exact ih⟩;rw [show ((z.natAbs:Nat):Int) = -z by omega,Rat.intCast_neg,Rat.intCast_neg,<- hu,<- h1];grind
def gW (σ:Int) (v:Ex->Nat):Ex->Int:=fun e=>σ ^ v e
def dW (Dx β:Int) (W:Nat) (v:Ex->Nat):Ex->Int:=fun e=>Dx*β ^ (W-v e)
theorem Im {σ:Int} (hσ:0<=σ) (v:Ex->Nat) (e:Ex):0<=gW σ v e:=VS hσ
theorem rG {a b:Int} (ha:0<=a) (h:a<=b):∀ k:Nat,a ^ k<=b ^ k
 | 0=>by rw [WO,WO];exact Vl _
 | k+1=>by
  rw [QM,QM];exact VI (rG ha h k) h ha (VS Q2)
theorem Ej {a:Int} (h:1<=a) (k:Nat):1<=a ^ k:=Vu Q2
theorem JP {a:Int} (h:1<=a) {j k:Nat} (hj:j<=k):a ^ j<=a ^ k:=by
 obtain ⟨d,rfl⟩:∃ d,k=j+d:=⟨k-j,Q2⟩;rw [Va];have:=Ql (Ej h d) (VS (show 0<=a by omega):0<=a ^ j);omega
theorem CF.step {Dx β σ z:Int} {W w:Nat} {v:Ex->Nat} {a b:Rat} {m:Tm} (e:1<=β) (d:β<=σ) (hz:a*((Dx*β ^ (W-w):Int):Rat)=(z:Rat)) (hb:b≠0) (hm:m.2=a / b) (hw:w<=W):∀ {y:List Tm} {E:Int},YL β b E y->(∀ t∈y,v (bj t.1 m.1)+1<=w)->CF (dW Dx β W v) (gW σ v) (E*(z.natAbs*σ ^ (w-1))) (neg (kB y m))
 | [],E,h,_=>QX h (QX Q2 (VS Q2))
 | t :: y,E,⟨q,h3,h4⟩,hv=>by
  have ih:=CF.step (v:=v) e d hz hb hm hw h4 (fun s hs=>hv s (Qa _ hs));have hv:=hv t (Q7 ..);generalize hk:v (bj t.1 m.1)=k at hv;have e1:W-k=(W-w)+(w-k-1)+1:=Q2;refine ⟨-(q*z*β ^ (w-k-1)),?_,?_⟩
  ·show -(t.2*m.2)*((Dx*β ^ (W-v (bj t.1 m.1)):Int):Rat)=_;rw [hk,e1,QM,Va,hm,Rat.intCast_neg];simp only [VT] at hz ⊢;rw [<- hz];have:t.2*(a / b)*(β:Rat)=q*a:=by
    rw [Rat.div_def];have c:=Rat.mul_inv_cancel b hb;grind
   grind
  show CF _ _ (_-_*σ ^ v (bj t.1 m.1)) _;rw [hk];refine ih.mono ?_;have e2:((-(q*z*β ^ (w-k-1))).natAbs:Int)*σ ^ k<=(q.natAbs:Int)*(z.natAbs*σ ^ (w-1)):=by
   rw [Int.natAbs_neg,Vw,Vw,Int.natCast_mul,Int.natCast_mul,Ws,Ws];refine Ql (Ql ?_ Q2) Q2;have hp:(0:Int)<=β ^ (w-k-1):=VS Q2;rw [show ((β ^ (w-k-1)).natAbs:Int)=β ^ (w-k-1) by omega];have:w-1=(w-k-1)+k:=Q2;rw [this,Va];exact QQ (rG Q2 d _) (VS Q2)
  rw [Ya];omega
theorem CF.next {n:Nat} {Dx β σ E H:Int} {W:Nat} {v:Ex->Nat} {t u m:Tm} {r y a:List Tm} (d:1<=β) (b:β<=σ) (hE:E<=σ) (hu:u.2≠0) (hm:m.2=t.2 / u.2) (hw:v t.1<=W) (hw1:1<=v t.1) (hy:YL β u.2 E y) (hv:∀ s∈y,v (bj s.1 m.1)+1<=v t.1) (h:CF (dW Dx β W v) (gW σ v) H (t :: r)) (hr:Len n r) (hl:Len n (neg (kB y m))) (c:eO n a) (he:∀ e,co a e=co (r++neg (kB y m)) e):CF (dW Dx β W v) (gW σ v) H a:=by
 obtain ⟨z,z1,z2⟩:=h;have hs:=CF.step (v:=v) d b z1 hu hm hw hy hv;have hg:=Im (σ:=σ) Q2 v;refine eO.CF hg c (hr.append hl) he ((z2.append hg hs).mono ?_);have:E*((z.natAbs:Int)*σ ^ (v t.1-1))<=z.natAbs*gW σ v t.1:=by
  have e1:gW σ v t.1=σ ^ (v t.1-1)*σ:=by
   show σ ^ v t.1=_;rw [<- QM];congr 1;omega
  rw [e1,QH E,Ws];exact Ql (Ql hE (VS Q2)) Q2
 omega
theorem CF.start {Dx β σ:Int} {W:Nat} {v:Ex->Nat} (b:1<=β) (a:β<=σ):∀ {x:List Tm} {H:Int},(∀ t∈x,v t.1<=W)->CL Dx H x->CF (dW Dx β W v) (gW σ v) (H*σ ^ W) x
 | [],H,_,h=>QX h (VS Q2)
 | t :: x,H,hv,⟨z,z1,z2⟩=>by
  have ih:=CF.start (W:=W) (v:=v) b a (fun s hs=>hv s (Qa _ hs)) z2;have hv:=hv t (Q7 ..);refine ⟨z*β ^ (W-v t.1),?_,ih.mono ?_⟩
  ·show t.2*((Dx*β ^ (W-v t.1):Int):Rat)=_;rw [Rat.intCast_mul,Rat.intCast_mul,<- z1];grind
  have hp:(0:Int)<=β ^ (W-v t.1):=VS Q2;have e1:((z*β ^ (W-v t.1)).natAbs:Int)*gW σ v t.1<=z.natAbs*σ ^ W:=by
   rw [Vw,Int.natCast_mul,Ws,show ((β ^ (W-v t.1)).natAbs:Int)=β ^ (W-v t.1) by omega];refine Ql ?_ Q2;have:σ ^ W=σ ^ (W-v t.1)*σ ^ v t.1:=by rw [<- Va];congr 1;omega
   rw [this];exact QQ (rG Q2 a _) (VS Q2)
  rw [Ya];omega
theorem CF.wd {Dx β σ H:Int} {W K:Nat} {v:Ex->Nat} {l:List Tm} (hD:0<Dx) (d:1<=β) (e:β<=σ) (h:CF (dW Dx β W v) (gW σ v) H l) (hH:H<=WB ^ K) (hK:Dx*β ^ W<=WB ^ K) {t:Tm} (ht:t∈l):Wd K t.2:=by
 obtain ⟨z,z1,z2⟩:=h.mem (Im Q2 v) t ht;have g1:1<=gW σ v t.1:=Ej Q2 _;have hz:(z.natAbs:Int)<=H:=by
  have:=Ql g1 (show (0:Int)<=z.natAbs by omega);omega
 have hd:0<dW Dx β W v t.1:=WX hD (Vu Q2);have c:dW Dx β W v t.1<=Dx*β ^ W:=Ql (JP d Q2) Q2;obtain ⟨a,b⟩:=Cz.size hd ⟨z,z1,hz⟩;exact ⟨Q2,Q2⟩
def wE:Ex->Nat
 | []=>0
 | a :: l=>a.toNat*6 ^ l.length+wE l
theorem Hp:∀ {l:Ex},(∀ x∈l,0<=x/\x<=5)->wE l<6 ^ l.length
 | [],_=>by simp [wE]
 | a :: l,h=>by
  have ih:=Hp (l:=l) fun x hx=>h x (Qa _ hx);have ha:=h a (Q7 ..);have h1:a.toNat*6 ^ l.length<=5*6 ^ l.length:=QJ _ Q2;rw [wE,List.length_cons,Nat.pow_succ];omega
theorem wE_gt:∀ {a b:Ex},a.length=b.length->fa a b=true->(∀ x∈a,0<=x)->(∀ x∈b,0<=x/\x<=5)->wE b+1<=wE a
 | [],_,_,h,_,_=>by simp [fa] at h
 | _ :: _,[],_,h,_,_=>by simp [fa] at h
 | a :: l,b :: k,hl,h,ha,hb=>by
  have hl':l.length=k.length:=by simpa using hl
  rw [fa] at h;have c:=ha a (Q7 ..);have d:=hb b (Q7 ..)
  by_cases e:a=b
  ·rw [Qk e] at h;have ih:=wE_gt hl' h (fun x hx=>ha x (Qa _ hx)) (fun x hx=>hb x (Qa _ hx));rw [wE,wE,e,hl'];omega
  rw [Qc e,Vc] at h;have h1:=Hp (l:=k) fun x hx=>hb x (Qa _ hx);have h2:(b.toNat+1)*6 ^ k.length<=a.toNat*6 ^ k.length:=QJ _ Q2;rw [Xm,Y8] at h2;rw [wE,wE,hl'];omega
theorem Fg:∀ {a b:Ex},a.length=b.length->(∀ x∈a,0<=x)->(∀ x∈b,0<=x)->wE (bj a b)=wE a+wE b
 | [],[],_,_,_=>rfl
 | [],_ :: _,h,_,_=>by simp at h
 | _ :: _,[],h,_,_=>by simp at h
 | a :: l,b :: k,h,ha,hb=>by
  have hl':l.length=k.length:=by simpa using h
  have ih:=Fg hl' (fun x hx=>ha x (Qa _ hx)) (fun x hx=>hb x (Qa _ hx));have c:=ha a (Q7 ..);have d:=hb b (Q7 ..);have e:(a+b).toNat=a.toNat+b.toNat:=Q2;show (a+b).toNat*6 ^ (bj l k).length+wE (bj l k)=_;rw [ih,e,dD hl',Xm,wE,wE,hl'];omega
def fI (a b:Ex):Ex:=List.zipWith (· - ·) a b
theorem iS {a b:Ex} (h:a.length=b.length):(fI a b).length=a.length:=by simp [fI,h]
theorem gS {a b:Ex} (h:a.length=b.length) (v:Nat):(bj a b).getD v 0=a.getD v 0+b.getD v 0:=by
 by_cases c:v<a.length
 ·rw [eB (by rw [dD h];exact c),eB c,eB Q2];simp [bj]
 rw [Q6,Q6,Q6,Vh (by rw [dD h];omega),Vh Q2,Vh Q2];rfl
theorem jR {a b:Ex} (h:a.length=b.length) (v:Nat):(fI a b).getD v 0=a.getD v 0-b.getD v 0:=by
 by_cases c:v<a.length
 ·rw [eB (by rw [iS h];exact c),eB c,eB Q2];simp [fI]
 rw [Q6,Q6,Q6,Vh (by rw [iS h];omega),Vh Q2,Vh Q2];rfl
theorem qR {a b:Ex} (h:a.length=b.length) (hv:∀ v,a.getD v 0=b.getD v 0):a=b:=by
 apply QP h;intro i h1 h2;rw [<- eB h1,<- eB h2];exact hv i
def rY (c:Nat) (d:Ex):Ex:=d.map fun x=>(c:Int)*x
theorem jj (c:Nat) (d:Ex):(rY c d).length=d.length:=by simp [rY]
theorem lH (c:Nat) (d:Ex) (v:Nat):(rY c d).getD v 0=c*d.getD v 0:=by
 by_cases h:v<d.length
 ·rw [eB (by rw [jj];exact h),eB h];simp [rY]
 rw [Q6,Q6,Vh (by rw [jj];omega),Vh Q2];simp
def comb:List Ex->List Nat->Ex->Ex
 | d :: B,c :: cs,e=>comb B cs (bj e (rY c d))
 | _,_,e=>e
section
variable {n:Nat}
theorem EO:∀ {D:List Ex} {cs:List Nat} {e:Ex} (f:Ex),comb D cs (bj e f)=bj (comb D cs e) f
 | [],_,_,_=>by simp [comb]
 | _ :: _,[],_,_=>by simp [comb]
 | d :: B,c :: cs,e,f=>by
  rw [comb,comb,<- EO f];congr 1;rw [l7,l7,fK f]
theorem J6 (c:Nat) (d:Ex):bj (rY c d) d=rY (c+1) d:=by
 apply qR (by rw [dD (jj c d),jj,jj]);intro v;rw [gS (jj c d),lH,lH,Int.natCast_add,WN];omega
theorem Ap:∀ {D:List Ex} {cs:List Nat} {e d:Ex},cs.length=D.length->d∈D->∃ cs':List Nat,cs'.length=D.length/\comb D cs' e=bj (comb D cs e) d
 | [],_,_,_,_,h=>by cases h
 | _ :: _,[],_,_,h,_=>by simp at h
 | d :: B,c :: cs,e,x,hl,hx=>by
  rcases Qo.1 hx with rfl | hx
  ·exact ⟨(c+1) :: cs,hl,by rw [comb,comb,<- EO,l7,J6]⟩
  obtain ⟨cs',h1,h2⟩:=Ap (cs:=cs) (e:=bj e (rY c d)) (by simpa using hl) hx;exact ⟨c :: cs',by simp [h1],by rw [comb,comb,h2]⟩
theorem IA {v:Nat}:∀ {D:List Ex} {cs:List Nat} {e:Ex},(∀ d∈D,d.length=n/\d.getD v 0<=0)->e.length=n->(comb D cs e).getD v 0<=e.getD v 0
 | [],_,_,_,_=>by simp [comb]
 | _ :: _,[],_,_,_=>by simp [comb]
 | d :: B,c :: cs,e,hd,he=>by
  obtain ⟨h1,h2⟩:=hd d (Q7 ..);have hl:e.length=(rY c d).length:=by rw [jj,h1,he]
  have ih:=IA (v:=v) (cs:=cs) (e:=bj e (rY c d)) (fun x hx=>hd x (Qa _ hx)) (by rw [dD hl,he]);rw [gS hl,lH] at ih;have:(c:Int)*d.getD v 0<=c*0:=Ql h2 Q2;rw [comb];omega
def PD:List Ex->Prop
 | []=>True
 | d :: B=>(∃ v,d.getD v 0<=-1/\∀ d'∈B,d'.getD v 0<=0)/\PD B
def bx:List Ex->Nat->Ex->List Ex
 | [],_,e=>[e]
 | d :: B,s,e=>(List.range (6+5*s)).flatMap fun c=>bx B (6*s+5) (bj e (rY c d))
def bxN:Nat->Nat->Nat
 | 0,_=>1
 | k+1,s=>(6+5*s)*bxN k (6*s+5)
theorem dZ {α β:Type} {f:α->List β} {c:Nat}:∀ {l:List α},(∀ x∈l,(f x).length=c)->(l.flatMap f).length=l.length*c
 | [],_=>Q3
 | x :: l,h=>by
  have ih:=dZ (l:=l) fun y hy=>h y (Qa _ hy);rw [V7,Qf,ih,h x (Q7 ..),List.length_cons,Vi];omega
theorem MB:∀ (D:List Ex) (s:Nat) (e:Ex),(bx D s e).length=bxN D.length s
 | [],_,_=>rfl
 | d :: B,s,e=>by
  rw [bx,dZ fun c _=>MB B (6*s+5) (bj e (rY c d)),Xc];rfl
theorem LK:∀ {D:List Ex} {cs:List Nat} {e:Ex} {s:Nat},PD D->(∀ d∈D,d.length=n/\∀ v,d.getD v 0<=5)->e.length=n->(∀ v,e.getD v 0<=5+5*s)->cs.length=D.length->(∀ v,0<=(comb D cs e).getD v 0)->comb D cs e∈bx D s e
 | [],cs,e,s,_,_,_,_,_,_=>by simp [comb,bx]
 | _ :: _,[],_,_,_,_,_,_,h,_=>by simp at h
 | d :: B,c :: cs,e,s,⟨⟨v,h1,h2⟩,hp⟩,hd,he,hs,hl,h0=>by
  obtain ⟨d1,d2⟩:=hd d (Q7 ..);have hdB:∀ x∈B,x.length=n/\∀ v,x.getD v 0<=5:=fun x hx=>hd x (Qa _ hx);have hln:e.length=(rY c d).length:=by rw [jj,d1,he]
  have a:(bj e (rY c d)).length=n:=by rw [dD hln,he]
  rw [comb] at h0 ⊢;have hc:(c:Int)<=5+5*s:=by
   have a1:=IA (v:=v) (cs:=cs) (e:=bj e (rY c d)) (fun x hx=>⟨(hdB x hx).1,h2 x hx⟩) a;have a2:=h0 v;rw [gS hln,lH] at a1;have a3:=hs v;have a4:(c:Int)*d.getD v 0<=c*(-1):=Ql h1 Q2;omega
  rw [bx,Wp];refine ⟨c,Wu.2 Q2,LK hp hdB a (fun w=>?_) (by simpa using hl) h0⟩;rw [gS hln,lH];have a1:=hs w;have a2:(c:Int)*d.getD w 0<=c*5:=Ql (d2 w) Q2;omega
theorem yF:∀ {u s:Ex},u.length=s.length->fa u s=true->∃ v,s.getD v 0+1<=u.getD v 0/\∀ s':Ex,s'.length=u.length->fa u s'=true->fa s' s=true->s'.getD v 0<=u.getD v 0
 | [],_,_,h=>by simp [fa] at h
 | _ :: _,[],h,_=>by simp at h
 | a :: l,b :: k,hl,h=>by
  rw [fa] at h
  by_cases e:a=b
  ·rw [Qk e] at h;obtain ⟨v,h1,h2⟩:=yF (by simpa using hl) h;refine ⟨v+1,by simpa using h1,fun s' hs' d g=>?_⟩;cases s' with
   | nil=>simp at hs'
   | cons c j =>
    rw [fa] at d g;have hc:a=c:=by
     apply QK;intro hne;rw [Qc hne,Vc] at d;rw [Qc Q2,Vc] at g;omega
    rw [Qk hc] at d;rw [Qk Q2] at g;have:=h2 j (by simpa using hs') d g;simpa using this
  rw [Qc e,Vc] at h;refine ⟨0,by simp;omega,fun s' hs' d g=>?_⟩;cases s' with
  | nil=>simp at hs'
  | cons c j =>
   rw [fa] at d
   by_cases f:a=c
   ·simp [f]
   rw [Qc f,Vc] at d;simp;omega
def ways (u:Ex) (y:List Tm):List Ex:=(y.map fun s=>fI s.1 u).reverse
theorem M9 {u:Tm}:∀ {y:List Tm},fQ n (u :: y)->PD (ways u.1 y)
 | y,h=>by
  have key:∀ (z w:List Tm),(∀ s∈z++w,s.1.length=n/\fa u.1 s.1=true)->(z++w).Pairwise (fun a b=>fa b.1 a.1=true)->PD (w.map fun s=>fI s.1 u.1):=by
   intro z w
   induction w generalizing z with
   | nil=>exact fun _ _=>trivial
   | cons s w ih =>
    intro h1 h2;obtain ⟨l1,g1⟩:=h1 s Q3;have lu:=h.len u (Q7 ..);refine ⟨?_,ih (z++[s]) (by simpa using h1) (by simpa using h2)⟩;obtain ⟨v,a,b⟩:=yF (lu.trans l1.symm) g1;refine ⟨v,by rw [jR (l1.trans lu.symm)];omega,fun d' hd'=>?_⟩;obtain ⟨s',c,rfl⟩:=Qs.1 hd';obtain ⟨l2,g2⟩:=h1 s' (by simp [c]);have:=b s'.1 (l2.trans lu.symm) g2 ((Qv.1 (Xd.1 h2).2.1).1 s' c);rw [jR (l2.trans lu.symm)];omega
  have h3:=key [] y.reverse (fun s hs=>?_) ?_
  ·rwa [List.map_reverse] at h3
  ·have c:s∈y:=by simpa using hs
   exact ⟨h.len s (Qa _ c),(Qv.1 h.ord).1 s c⟩
  rw [List.nil_append,List.pairwise_reverse];exact (Qv.1 h.ord).2
end
section
variable {n:Nat}
def RC (X:List Ex) (u:Ex) (y r:List Tm):Prop:=∀ t∈r,(∀ x∈t.1,0<=x)/\∃ e∈X,∃ cs:List Nat,cs.length=(ways u y).length/\t.1=comb (ways u y) cs e
theorem Ao:∀ {D:List Ex} {e:Ex},(∀ d∈D,d.length=n)->e.length=n->comb D (List.replicate D.length 0) e=e
 | [],_,_,_=>by simp [comb]
 | d :: B,e,hd,he=>by
  have hz:bj e (rY 0 d)=e:=by
   apply qR (dD (by rw [jj,hd d (Q7 ..),he]));intro v;rw [gS (by rw [jj,hd d (Q7 ..),he]),lH];simp
  rw [List.length_cons,List.replicate_succ,comb,hz];exact Ao (fun x hx=>hd x (Qa _ hx)) he
theorem Kp {u:Ex} {y:List Tm} (hu:u.length=n) (hy:Len n y):∀ d∈ways u y,d.length=n:=fun d hd=>by
 obtain ⟨s,hs,rfl⟩:=Qs.1 (Yk.1 hd);rw [iS ((hy s hs).trans hu.symm),hy s hs]
theorem RC.start {X:List Ex} {u:Ex} {y r:List Tm} (hu:u.length=n) (hy:Len n y) (hr:Len n r) (a:NN r) (hX:∀ t∈r,t.1∈X):RC X u y r:=fun t ht=>⟨a t ht,t.1,hX t ht,_,QI ..,(Ao (Kp hu hy) (hr t ht)).symm⟩
theorem RC.next {X:List Ex} {u t m:Tm} {y r a:List Tm} (hu:u.1.length=n) (hy:Len n y) (hm:m.1.length=n) (ny:NN y) (nm:∀ x∈m.1,0<=x) (ht:t.1=bj m.1 u.1) (h:RC X u.1 y (t :: r)) (b:eO n a) (he:∀ e,co a e=co (r++neg (kB y m)) e):RC X u.1 y a:=fun w hw=>by
 obtain ⟨v,hv,e⟩:=b.from he hw;rw [<- e];rcases QT.1 hv with g | g
 ·exact h v (Qa _ g)
 obtain ⟨v',hv',rfl⟩:=Qs.1 g;obtain ⟨s,hs,rfl⟩:=Qs.1 hv';obtain ⟨-,e0,he0,cs,c1,c2⟩:=h t (Q7 ..);have hls:=hy s hs;refine ⟨fun x hx=>nH (ny s hs) nm hx,e0,he0,?_⟩;obtain ⟨cs',c3,c4⟩:=Ap (D:=ways u.1 y) (e:=e0) c1 (Yk.2 (Qs.2 ⟨s,hs,rfl⟩));refine ⟨cs',c3,?_⟩;rw [c4,<- c2,ht];show bj s.1 m.1=_;have l1:(bj m.1 u.1).length=n:=by rw [dD (by rw [hm,hu]),hm]
 have l2:(fI s.1 u.1).length=n:=by rw [iS (by rw [hls,hu]),hls]
 apply qR (by rw [dD (by rw [hls,hm]),dD (by rw [l1,l2]),hls,l1]);intro v;rw [gS (by rw [hls,hm]),gS (by rw [l1,l2]),gS (by rw [hm,hu]),jR (by rw [hls,hu])];omega
def SL (X:List Ex) (u:Ex) (y:List Tm):List Ex:=X.flatMap (bx (ways u y) 0)
theorem uh {e:Ex} (h:∀ x∈e,(0:Int)<=x) (v:Nat):0<=e.getD v 0:=by
 by_cases c:v<e.length
 ·rw [eB c];exact h _ (Qi c)
 rw [Q6,Vh Q2];exact Vl _
theorem wO {e:Ex} {b:Int} (hb:0<=b) (h:∀ x∈e,x<=b) (v:Nat):e.getD v 0<=b:=by
 by_cases c:v<e.length
 ·rw [eB c];exact h _ (Qi c)
 rw [Q6,Vh Q2];exact hb
theorem RC.mem {X:List Ex} {u:Tm} {y r:List Tm} (hy:fQ n (u :: y)) (ny:XB 5 (u :: y)) (hX:∀ e∈X,e.length=n/\∀ x∈e,x<=5) (h:RC X u.1 y r) {t:Tm} (ht:t∈r):t.1∈SL X u.1 y:=by
 obtain ⟨h0,e,he,cs,c1,c2⟩:=h t ht;obtain ⟨e1,e2⟩:=hX e he;have lu:=hy.len u (Q7 ..);refine Wp.2 ⟨e,he,?_⟩;rw [c2];refine LK (n:=n) (M9 hy) (fun d hd=>?_) e1 (fun v=>wO Q2 (fun x hx=>by have:=e2 x hx;omega) v) c1 (fun v=>by rw [<- c2];exact uh h0 v);obtain ⟨s,hs,rfl⟩:=Qs.1 (Yk.1 hd);have ls:=hy.len s (Qa _ hs);refine ⟨by rw [iS (ls.trans lu.symm),ls],fun v=>?_⟩;have a:=ny s (Qa _ hs);have b:=uh (ny u (Q7 ..)).1 v;have c:=wO (b:=5) Q2 (fun x hx=>Vf (oL a.1 hx) a.2) v;rw [jR (ls.trans lu.symm)];omega
theorem ID:∀ (k s:Nat),1<=bxN k s
 | 0,_=>Qn _
 | k+1,s=>Nat.mul_pos Q2 (ID k _)
theorem EX:∀ {k j:Nat} (s:Nat),k<=j->bxN k s<=bxN j s
 | 0,j,s,_=>ID j s
 | k+1,0,_,h=>Q2
 | k+1,j+1,s,h=>Wi _ (EX _ Q2)
theorem SL_len {X:List Ex} {u:Ex} {y:List Tm} (hX:X.length<=6) (hy:y.length<=5):(SL X u y).length<=1415176098156:=by
 rw [SL,dZ fun e _=>MB _ _ _];have h1:(ways u y).length<=5:=by simpa [ways] using hy
 exact Y1 hX (Qu (EX 0 h1) (YC (by rfl:bxN 5 0=235862683026)))
theorem filter_lt {p q:Ex->Bool} (h:∀ x,p x=true->q x=true):∀ {S:List Ex} {x:Ex},x∈S->q x=true->p x=false->(S.filter p).length<(S.filter q).length
 | [],_,hx,_,_=>by cases hx
 | a :: S,x,hx,hq,hp=>by
  have mono:∀ T:List Ex,(T.filter p).length<=(T.filter q).length:=fun T=>by
   induction T with
   | nil=>exact Qn _
   | cons b T ih =>
    cases c:p b with
    | true=>rw [Vp c,Vp (h b c),List.length_cons,List.length_cons];omega
    | false =>
     rw [VC (by simp [c])];cases d:q b with
     | true=>rw [Vp d,List.length_cons];omega
     | false=>rw [VC (by simp [d])];exact ih
  rcases Qo.1 hx with rfl | hx
  ·rw [VC (by simp [hp]),Vp hq,List.length_cons];have:=mono S;omega
  have ih:=filter_lt h hx hq hp;cases c:p a with
  | true=>rw [Vp c,Vp (h a c),List.length_cons,List.length_cons];omega
  | false =>
   rw [VC (by simp [c])];cases d:q a with
   | true=>rw [Vp d,List.length_cons];omega
   | false=>rw [VC (by simp [d])];exact ih
theorem wD {t:Tm} {p:List Tm} (h:fQ n (t :: p)):Top fa (t :: p) t:=⟨Q7 ..,fun u hu=>by
 rcases Qo.1 hu with e | e
 ·exact .inl (by rw [e])
 exact .inr ((Qv.1 h.ord).1 u e)⟩
theorem NV {p:List Tm} (hp:Len n p):∃ q,fQ n q/\eW q p:=by
 induction p with
 | nil=>exact ⟨[],fQ.nil n,.refl _⟩
 | cons t p ih =>
  obtain ⟨q,q1,q2⟩:=ih fun u hu=>hp u (Qa _ hu)
  by_cases c:t.2=0
  ·refine ⟨q,q1,fun m=>?_⟩;simp only [cY];rw [q2,c];grind
  have h1:fQ n [t]:=⟨List.pairwise_singleton ..,fun u hu=>by rw [List.mem_singleton] at hu;rw [hu];exact c,fun u hu=>by rw [List.mem_singleton] at hu;rw [hu];exact hp t (List.mem_cons_self ..)⟩;obtain ⟨a,b⟩:=oa [t] q h1 q1;refine ⟨_,a,fun m=>?_⟩;rw [b];simp only [cY];rw [q2];grind
theorem Jt {q y:List Tm} {u:Tm} (hq:fQ n q) (hy:fQ n (u :: y)) (h:eW (prod q (u :: y)) []):q=[]:=by
 cases q with
 | nil=>rfl
 | cons m q =>
  obtain ⟨a,-⟩:=pU oH hq.len hy.len (wD hq) (wD hy);rw [h.co,hq.dst.gh m (Q7 ..),hy.dst.gh u (Q7 ..)] at a;exact absurd a.symm fun h=>(VB.1 h).elim (hq.nz m (Q7 ..)) (hy.nz u (Q7 ..))
theorem ql {a b y:List Tm} {u:Tm} (ha:Len n a) (hb:Len n b) (hy:fQ n (u :: y)) (h:eW (prod a (u :: y)) (prod b (u :: y))):eW a b:=by
 obtain ⟨q,q1,q2⟩:=NV (ha.append (Len.neg hb));have h1:eW (prod q (u :: y)) []:=fun m=>by
  have e1:=(q2.prod (.refl (u :: y))) m;have e2:=E5 a (neg b) (u :: y) m;have e3:=(zO (neg b) (u :: y)) m;have e4:=(Lm (u :: y) b) m;have e5:=(zO (u :: y) b) m;have e6:=h m;rw [e1,e2,cF,e3,e4,jn,e5,<- e6];show _=(0:Rat);grind
 obtain rfl:=Jt q1 hy h1;intro m;have:=q2 m;rw [cF,jn] at this;simp only [cY] at this;grind
end
section
variable {n:Nat} {g:Ex->Ex->Bool}
def wB (g:Ex->Ex->Bool) (n:Nat) (t:Tm) (p:List Tm):Prop:=eO n (t :: p)/\∀ w∈p,g t.1 w.1=true
theorem fQ.M3 {t:Tm} {p:List Tm} (h:fQ n (t :: p)):wB fa n t p:=⟨h.dst,(Qv.1 h.ord).1⟩
theorem wB.top {t:Tm} {p:List Tm} (h:wB g n t p):Top g (t :: p) t:=⟨Q7 ..,fun u hu=>by
 rcases Qo.1 hu with e | e
 ·exact .inl (by rw [e])
 exact .inr (h.2 u e)⟩
theorem wB.len {t:Tm} {p:List Tm} (h:wB g n t p):t.1.length=n:=h.1.len t (Q7 ..)
theorem qG (f:Ex->Rat) (t:Tm) (p:List Tm):cY f (t :: p)=t.2*f t.1+cY f p:=rfl
theorem prod_cons (m:Tm) (q y:List Tm):prod (m :: q) y=kB y m++prod q y:=rfl
variable (hg:Ord g)
include hg
theorem zY {a b:Ex} (h:g a b=true):g b a=false:=by
 cases c:g b a with
 | false=>rfl
 | true=>have:=hg.tr h c;rw [hg.irr] at this;cases this
theorem JT {a b c:Ex} (ha:a.length=c.length) (hb:b.length=c.length) (h:g (bj a c) (bj b c)=true):g a b=true:=by
 apply QK;intro k;have k:g a b=false:=by simpa using k
 by_cases k':g b a=true
 ·have:=zY hg (hg.add hb ha k');rw [this] at h;cases h
 have:=hg.tot (ha.trans hb.symm) k (by simpa using k');rw [this,hg.irr] at h;cases h
theorem Ec {q y r:List Tm} {u t:Tm} (hq:eO n q) (hy:wB g n u y) (hr:wB g n t r) (hp:eW (prod q (u :: y)) (t :: r)):∃ m q',q.Perm (m :: q')/\wB g n m q'/\t.1=bj m.1 u.1/\t.2=m.2*u.2:=by
 have c:q≠[]:=fun h=>by
  subst h;have e:=hp.co t.1;rw [hr.1.gh t (Q7 ..)] at e;exact absurd e.symm (hr.1.nz t (Q7 ..))
 obtain ⟨m,hm⟩:=xe hg hq.len c;obtain ⟨q1,q2,e⟩:=List.append_of_mem hm.1;have hperm:q.Perm (m :: (q1++q2)):=by rw [e];exact WV
 have hd:=hq.perm hperm;obtain ⟨a,b⟩:=pU hg hq.len hy.1.len hm hy.top;have c1:co q m.1=m.2:=hq.gh m hm.1;have c2:co (u :: y) u.1=u.2:=hy.1.gh u (Q7 ..);rw [c1,c2] at a;have c:m.2*u.2≠0:=fun h=>(VB.1 h).elim (hq.nz m hm.1) (hy.1.nz u (Q7 ..));have d:(bj m.1 u.1,m.2*u.2)∈t :: r:=(hr.1.mem_iff _).2 ⟨by rw [<- hp.co,a],c⟩;obtain ⟨w,hw,ew⟩:=hr.1.from (fun e=>(hp.co e).symm) (Q7 ..);have h1:t.1=bj m.1 u.1∨g (bj m.1 u.1) t.1=true:=by rw [<- ew];exact b w hw
 have h2:=hr.top.2 _ d;have e1:t.1=bj m.1 u.1:=by
  rcases h1 with k | k
  ·exact k
  rcases h2 with k' | k'
  ·exact k'.symm
  have:=zY hg k;rw [this] at k';cases k'
 refine ⟨m,q1++q2,hperm,⟨hd,fun w hw=>?_⟩,e1,?_⟩
 ·rcases hm.2 w (hperm.symm.subset (Qa _ hw)) with k | k
  ·exact absurd k.symm ((Qv.1 hd.ne).1 w hw)
  exact k
 have:=hr.1.gh t (Q7 ..);rw [<- hp.co,e1,a] at this;exact this.symm
omit hg in
theorem CP {t u m:Tm} {r y a:List Tm} (ht:t.1=bj m.1 u.1) (ht2:t.2=m.2*u.2) (he:eW a ((t :: r)++neg (kB (u :: y) m))):eW a (r++neg (kB y m)):=fun f=>by
 rw [he,cF,cF,jn,jn,qG];show _ + -cY f ((bj u.1 m.1,u.2*m.2) :: kB y m)=_;rw [qG,fK u.1,<- ht,ht2];grind
theorem AH {t u m:Tm} {r y a:List Tm} (hy:wB g n u y) (hr:wB g n t r) (c:eO n a) (hm:m.1.length=n) (ht:t.1=bj m.1 u.1) (he:eW a (r++neg (kB y m))) {b:Tm} (hb:b∈a):g t.1 b.1=true:=by
 obtain ⟨v,hv,e⟩:=c.from (fun e=>he.co e) hb;rw [<- e];rcases QT.1 hv with k | k
 ·exact hr.2 v k
 obtain ⟨w,hw,rfl⟩:=Qs.1 k;obtain ⟨s,hs,rfl⟩:=Qs.1 hw;show g t.1 (bj s.1 m.1)=true;rw [ht,fK m.1];exact hg.add (hy.len.trans hm.symm) ((hy.1.len s (Qa _ hs)).trans hm.symm) (hy.2 s hs)
theorem Dr {t u m:Tm} {q r y i:List Tm} (hq:eO n q) (hy:wB g n u y) (hr:wB g n t r) (j:eO n i) (hm:m.1.length=n) (hm0:m.2≠0) (ht:t.1=bj m.1 u.1) (ht2:t.2=m.2*u.2) (he:eW i (r++neg (kB y m))) (hp:eW (prod q (u :: y)) i):wB g n m q/\eW (prod (m :: q) (u :: y)) (t :: r):=by
 have d:∀ w∈q,g m.1 w.1=true:=by
  by_cases h0:q=[]
  ·exact fun w hw=>by rw [h0] at hw;cases hw
  obtain ⟨a,ha⟩:=xe hg hq.len h0;obtain ⟨x,-⟩:=pU hg hq.len hy.1.len ha hy.top;have c:co q a.1*co (u :: y) u.1≠0:=by
   rw [hq.gh a ha.1,hy.1.gh u (Q7 ..)];exact fun h=>(VB.1 h).elim (hq.nz a ha.1) (hy.1.nz u (Q7 ..))
  rw [<- x,hp.co] at c;obtain ⟨b,hb,eb⟩:=IB c;have l2:=AH hg hy hr j hm ht he hb;rw [eb,ht] at l2;have l3:=JT hg (hm.trans hy.len.symm) ((hq.len a ha.1).trans hy.len.symm) l2;intro w hw;rcases ha.2 w hw with k | k
  ·rw [k];exact l3
  exact hg.tr l3 k
 refine ⟨⟨⟨Qv.2 ⟨fun w hw e=>?_,hq.ne⟩,fun w hw=>?_,fun w hw=>?_⟩,d⟩,fun f=>?_⟩
 ·have:=d w hw;rw [<- e,hg.irr] at this;cases this
 ·rcases Qo.1 hw with rfl | hw
  ·exact hm0
  exact hq.nz w hw
 ·rcases Qo.1 hw with rfl | hw
  ·exact hm
  exact hq.len w hw
 rw [prod_cons,cF,hp,he,cF,jn];show cY f ((bj u.1 m.1,u.2*m.2) :: kB y m)+_=_;rw [qG,qG,fK u.1,<- ht,ht2];grind
theorem HO {t u:Tm} {q r y:List Tm} (hq:eO n q) (nq:NN q) (hy:wB g n u y) (hr:wB g n t r) (hp:eW (prod q (u :: y)) (t :: r)) (i:Nat):u.1.getD i 0<=t.1.getD i 0:=by
 obtain ⟨m,q',hm,a,b,-⟩:=Ec hg hq hy hr hp;have h1:=uh (nq m (hm.symm.subset (Q7 ..))) i;rw [b,gS (a.len.trans hy.len.symm)];omega
theorem xD {t u m:Tm} {q r y e:List Tm} (hq:eO n q) (nq:NN q) (hy:wB g n u y) (hr:wB g n t r) (hm:m.1.length=n) (ht:t.1=bj m.1 u.1) (ht2:t.2=m.2*u.2) (he:eW e (r++neg (kB y m))) (hp:eW (prod q (u :: y)) (t :: r)):∃ q',q.Perm (m :: q')/\wB g n m q'/\eW (prod q' (u :: y)) e:=by
 obtain ⟨m',q',d,a,b,c⟩:=Ec hg hq hy hr hp;have lu:=hy.len;have e1:m.1=m'.1:=yV (hm.trans lu.symm) (a.len.trans lu.symm) (ht.symm.trans b);have e2:m.2=m'.2:=by
  have h0:=hy.1.nz u (List.mem_cons_self ..);have h1:m.2*u.2=m'.2*u.2:=ht2.symm.trans c;have:=Rat.mul_inv_cancel _ h0;grind
 have e3:m=m':=Prod.ext e1 e2;subst e3;refine ⟨q',d,a,fun f=>?_⟩;have h1:=hp f;rw [dh,jf _ d,<- dh,prod_cons,cF] at h1;have h2:cY f (kB (u :: y) m)=(u.2*m.2)*f (bj u.1 m.1)+cY f (kB y m):=rfl;rw [h2,qG,fK u.1,<- ht,ht2] at h1;rw [he,cF,jn];grind
end
end Go.Proofs.YtfbgaddecbiimaaGreatDoor.G
end
end
