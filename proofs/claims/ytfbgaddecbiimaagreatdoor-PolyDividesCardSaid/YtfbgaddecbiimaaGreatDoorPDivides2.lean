/- An evaluator of the program's code, what its functions come to, and what they mean: text 2. No condition. -/
import Derived.ChangeArms
import Derived.WideShapes
import Derived.Test.YtfbgaddecbiimaaGreatDoorProg
import Derived.Test.YtfbgaddecbiimaaGreatDoorPDivides1
set_option linter.unusedSimpArgs false
set_option linter.unusedSectionVars false
set_option linter.unusedVariables false
set_option maxRecDepth 100000
set_option maxHeartbeats 4000000
section
namespace Go.Proofs.YtfbgaddecbiimaaGreatDoor.V
open Go.RowKit
section
variable {P:Program} {X:Ctx} {S:St} {o:Oper}
theorem DC {t e:TypeId} {len:Nat} {inf:TypeInfo} {x y:Operand} {k off:Nat} {d:Row} {kk:IntKind} {i:Int} (ho:o.op = .indexAddr t x y) (hu:P.underlying t=some (.array len e)) (hi:P.info? e=some inf) (hx:ev S x=some (.po k off)) (hy:ev S y=some (.int kk i))
 (hd:S.rows k=some d) (b:0<=i) (c:i<len) (hl:off+i.toNat*inf.size<d.data.length):Pure P X o S (.po k (off+i.toNat*inf.size)):=by
 intro L a w r;have h:=r.ev hx;generalize hv:a.eval x=v at h;cases h with
 | @po _ _ g m cap r' h hL hb =>
  refine ⟨.pointer (some ⟨g,off+i.toNat*inf.size,none⟩),?_,.po hd hL hl⟩;simp [execOp,ho,Instr.indexAt,Instr.sureAddr,asIntOf,hv,(r.ev hy).lit,run_underlying hu,sizeOf,typeInfo,hi,b,c,add_plain]
theorem xK {t e:TypeId} {len:Nat} {inf:TypeInfo} {x y:Operand} {cs:List CV} {kk:IntKind} {i:Int} (ho:o.op = .indexAddr t x y) (hu:P.underlying t=some (.array len e)) (hi:P.info? e=some inf) (hx:ev S x=some (.pr cs)) (hy:ev S y=some (.int kk i))
 (c:0<=i) (d:i<len):Pure P X o S (.pr ((cs.drop (i.toNat*inf.size)).take inf.size)):=by
 intro L a w r;have h:=r.ev hx;generalize hv:a.eval x=v at h;cases h with
 | @pr ad _ vs hs hF hc hd =>
  refine ⟨.pointer (some (ad.add (i.toNat*inf.size))),?_,?_⟩
  ·simp [execOp,ho,Instr.indexAt,Instr.sureAddr,asIntOf,hv,(r.ev hy).lit,run_underlying hu,sizeOf,typeInfo,hi,c,d]
  refine .pr (fun j=>vs (i.toNat*inf.size+j)) (pZ _ hs _) (by rw [block_add];exact hF) (fun j hj=>?_) (fun j hj=>?_)
  ·simp only [Qd,Qq] at hj;rw [add_add _ hs];exact hc _ Q2
  have b:=hj;simp only [Qd,Qq] at b;have:=hd (i.toNat*inf.size+j) Q2;simpa [V6,V0] using this
theorem xJ {t e:TypeId} {len:Nat} {inf:TypeInfo} {ds:TypeDesc} {x y:Operand} {cs:List CV} {c:CV} {kk:IntKind} {i:Int} (ho:o.op = .index t x y) (hu:P.underlying t=some (.array len e)) (hi:P.info? e=some inf) (hs:inf.size=1) (hd:P.underlying e=some ds)
 (hds:(match ds with | .struct _ | .array _ _=>true | _=>false)=false) (hx:ev S x=some (.ag cs)) (hy:ev S y=some (.int kk i)) (d:0<=i) (f:i<len) (hc:cs[i.toNat]?=some c):Pure P X o S (.cv c):=by
 intro L a w r;have h:=r.ev hx;generalize hv:a.eval x=v at h;obtain ⟨hb,rfl⟩:=Qx.1 hc;cases h with
 | @ag vs _ hl h =>
  have b:i.toNat<vs.size:=Q2;have e1:=h i.toNat hb;rw [Q9,Qg b] at e1;refine ⟨vs[i.toNat],?_,.cv e1⟩;cases ds<;>simp at hds<;>simp [execOp,ho,Instr.index,asIntOf,hv,(r.ev hy).lit,run_underlying hu,sizeOf,typeInfo,hi,hs,d,f,part,isAgg,run_underlying hd,Qg b]
theorem zc {t e:TypeId} {len:Nat} {inf:TypeInfo} {x:Operand} {cs:List CV} (ho:o.op = .load t x) (hu:P.underlying t=some (.array len e)) (hi:P.info? t=some inf) (hl:cs.length=inf.size) (hx:ev S x=some (.pr cs)):Pure P X o S (.ag cs):=by
 intro L a w r;have h:=r.ev hx;generalize hv:a.eval x=v at h;cases h with
 | @pr ad _ vs hs hF hc hdn =>
  refine ⟨.agg ((List.range inf.size).map vs).toArray,?_,.ag (by simp [hl]) (fun i hj=>?_)⟩
  ·have e:=run_loadCells (P:=P) (w:=w) ad inf.size vs (fun j hj=>hc j Q2);simp [execOp,ho,Instr.loadAt,Instr.sureAddr,hv,loadVar,isAgg,run_underlying hu,sizeOf,typeInfo,hi,e]
  have:i<inf.size:=Q2;simpa [Q9,this] using (hdn i hj).open
theorem tK {t e:TypeId} {len:Nat} {inf:TypeInfo} {x:Operand} {k off:Nat} {d:Row} (ho:o.op = .load t x) (hu:P.underlying t=some (.array len e)) (hi:P.info? t=some inf) (hx:ev S x=some (.po k off)) (hd:S.rows k=some d) (hl:off+inf.size<=d.data.length) :
 Pure P X o S (.ag ((d.data.drop off).take inf.size)):=by
 intro L a w r;have h:=r.ev hx;generalize hv:a.eval x=v at h;cases h with
 | @po _ _ g m cap r' h hL _ =>
  obtain ⟨xs,h1,h2⟩:=r.qp hd hL;refine ⟨.agg ((List.range inf.size).map fun j=>xs.getD (off+j) undef).toArray,?_,.ag (by simp;omega) (fun i hj=>?_)⟩
  ·have e:=run_loadCells (P:=P) (w:=w) ⟨g,off,none⟩ inf.size (fun j=>xs.getD (off+j) undef) (fun j hj=>by rw [add_plain];exact (h2 (off+j) Q2).1);simp [execOp,ho,Instr.loadAt,Instr.sureAddr,hv,loadVar,isAgg,run_underlying hu,sizeOf,typeInfo,hi,e]
  simp only [Qd,Qq] at hj;have b:i<inf.size:=Q2;have:=(h2 (off+i) Q2).2;simpa [Q9,b,V6,V0] using this
theorem Fp {e:TypeId} {x:Operand} {p:PV} {cs:List CV} {sz n:Nat} (k:Nat) (ho:o.op = .box e x) (hx:ev S x=some p) (hc:eA p=some cs) (hn:cs.length=n*sz) (hm:n<=maxLen) (hp:0<cs.length) (hk:S.rows k=none) (hkl:k≠cd) (hd:dm X o.dst) (hsh:(Nat.ble opened k||cs.all gj)=true):cf P X o S (put (setRow S k ⟨e,sz,n,cs⟩) o.dst (.po k 0)):=by
 intro a w ⟨L,r⟩;obtain ⟨h1,h2⟩:=uo (r.ev hx) hc;have r2:=r.newRow hk hkl (a.eval x).cells e sz n n cs Q2 Q2 (Qn _) hm (fun i hi=>(h2 i hi).at (AP hsh hi));refine cW (v:=.pointer (some ⟨w.heap.size,0,none⟩)) (w':=w.alloc (.cells (a.eval x).cells e)) ?_ ⟨_,r2.put hd ?_⟩
 ·simp [execOp,ho,Instr.box,newVar,newRow]
 refine .po (r:=⟨e,sz,n,cs⟩) (m:=n) (cap:=n) (by simp [setRow]) (by simp [bh]) hp
theorem AE {e:TypeId} {inf:TypeInfo} {z:Value} {cs:List CV} {sz n:Nat} (k:Nat) (ho:o.op = .alloc e) (hi:P.info? e=some inf) (hz:inf.zero=some z) (hc:eA (E9 z)=some cs) (hcl:z.cells.size=cs.length/\∀ i (h:i<cs.length),ij (z.cells.getD i undef)=cs[i]) (hn:cs.length=n*sz) (hm:n<=maxLen) (hp:0<cs.length) (hk:S.rows k=none) (hkl:k≠cd) (hd:dm X o.dst) :
 cf P X o S (put (setRow S k ⟨e,sz,n,cs⟩) o.dst (.po k 0)):=by
 intro a w ⟨L,r⟩;have r2:=r.newRow hk hkl z.cells e sz n n cs Q2 Q2 (Qn _) hm (fun i h=>by rw [<- hcl.2 i h];exact jT _ _ _);refine cW (v:=.pointer (some ⟨w.heap.size,0,none⟩)) (w':=w.alloc (.cells z.cells e)) ?_ ⟨_,r2.put hd ?_⟩
 ·simp [execOp,ho,Instr.alloc,zeroValue,typeInfo,hi,hz,newVar,newRow]
 refine .po (r:=⟨e,sz,n,cs⟩) (m:=n) (cap:=n) (by simp [setRow]) (by simp [bh]) hp
theorem tO {t e:TypeId} {len:Nat} {inf:TypeInfo} {x:Operand} {lo hi:Option Operand} {cs:List CV} {l h:Int} (ho:o.op = .slice t x lo hi none) (hu:P.underlying t=some (.array len e)) (hi':P.info? e=some inf) (hx:ev S x=some (.pr cs)) (hlen:cs.length=len*inf.size)
 (hl:bound S 0 lo=some l) (hh:bound S len hi=some h) (f:0<=l) (k:l<=h) (d:h<=len) :
 Pure P X o S (.cv (.row (h.toNat-l.toNat) ((cs.drop (l.toNat*inf.size)).take ((h.toNat-l.toNat)*inf.size)))):=by
 intro L a w r;have hb:=lK (P:=P) (X:=X) (n:=len) (c:=len) r hl hh f k d (Qn _) false;have g:=r.ev hx;generalize hv:a.eval x=v at g;have hm:l.toNat*inf.size+(h.toNat-l.toNat)*inf.size<=cs.length:=by
  rw [hlen,<- Xm];exact QJ _ Q2
 cases g with
 | @pr ad _ vs hs hF hc hd =>
  refine ⟨.slice (some (if len=l.toNat then ad else ad.add (l.toNat*inf.size))) (h.toNat-l.toNat) (len-l.toNat),?_,.cv ?_⟩
  ·simp [execOp,ho,Instr.sliceAt,Instr.sureAddr,hv,run_underlying hu,hb,sizeOf,typeInfo,hi']
  split
  ·rename_i e;have e0:h.toNat-l.toNat=0:=Q2;refine .row ad _ _ _ (fun _=>undef) hs hF Q2 (fun i hi=>?_) (fun i hi=>?_)
   ·simp [e0] at hi
   simp [e0] at hi
  refine .row (ad.add (l.toNat*inf.size)) _ _ _ (fun j=>vs (l.toNat*inf.size+j)) (pZ _ hs _) (by rw [block_add];exact hF) Q2 (fun j hj=>?_) (fun j hj=>?_)
  ·simp only [Qd,Qq] at hj;rw [add_add _ hs];exact hc _ Q2
  have b:=hj;simp only [Qd,Qq] at b;have:=hd (l.toNat*inf.size+j) Q2;simpa [V6,V0] using this
theorem Bh {t e:TypeId} {len:Nat} {inf:TypeInfo} {x:Operand} {k:Nat} {d:Row} (ho:o.op = .slice t x none none none) (hu:P.underlying t=some (.array len e)) (hi':P.info? e=some inf) (hx:ev S x=some (.po k 0)) (hd:S.rows k=some d) (hn:d.n=len) (hp:0<len):Pure P X o S (.win k 0 len):=by
 intro L a w r;have g:=r.ev hx;generalize hv:a.eval x=v at g;cases g with
 | @po _ _ g m cap r' h hL hb =>
  have hm:m=len:=by
   obtain ⟨xs,q1,_,_⟩:=r.row k d hd;rw [hL] at q1;rcases q1.2 with ⟨b1,b2⟩ | ⟨g',cap',cur,b1,_⟩
   ·cases b1
   cases b1;exact hn
  subst hm;refine ⟨.slice (some ⟨g,0,none⟩) m m,?_,.win hd hL Q2 (Qn _) (fun h=>by cases h) (fun _=>Q3)⟩;simp [execOp,ho,Instr.sliceAt,Instr.sureAddr,hv,run_underlying hu,Instr.sliceBounds,sizeOf,typeInfo,hi',Addr.add]
theorem xG {s:TypeId} {fs:Array Field} {f:Field} {len:Nat} {e:TypeId} {inf:TypeInfo} {x:Operand} {i:Nat} {cs:List CV} (ho:o.op = .field s x i) (hu:P.underlying s=some (.struct fs)) (hf:fs[i]?=some f) (hd:P.underlying f.type=some (.array len e)) (hi:P.info? f.type=some inf)
 (hx:ev S x=some (.ag cs)) (hl:f.offset+inf.size<=cs.length):Pure P X o S (.ag ((cs.drop f.offset).take inf.size)):=by
 intro L a w r;have h:=r.ev hx;generalize hv:a.eval x=v at h;cases h with
 | @ag vs _ hs h =>
  refine ⟨.agg (vs.extract f.offset (f.offset+inf.size)),?_,.ag (by simp;omega) (fun j hj=>?_)⟩
  ·simp [execOp,ho,Instr.field,hv,run_underlying hu,hf,part,isAgg,run_underlying hd,asAgg,sizeOf,typeInfo,hi]
  simp only [Qd,Qq] at hj;have:=h (f.offset+j) Q2;have b:f.offset+j<vs.size:=Q2;have c:j<f.offset+inf.size-f.offset:=Q2;simp only [Q9,Qg b,Option.getD_some] at this;simp only [Q9,Ym,V6,V0];rw [Qk Q2,Qg b];exact this
end
theorem zB {P:Program} {e:TypeId} {q:IntKind} {w:World} {xs:Array Value} {i:Nat} {a:Int} (he:P.underlying e=some (.int q)) (h:xs[i]?=some (.int q a)):(part e xs i).run P w = .ok (.int q a) w:=by
 simp [part,isAgg,run_underlying he,h]
theorem FQ {P:Program} {e:TypeId} {q:IntKind} {w:World} {a b:Int} {d:Nat} (he:P.underlying e=some (.int q)):(Op.equalIn (d+1) e (.int q a) (.int q b)).run P w = .ok (a==b) w:=by
 simp [Op.equalIn,run_underlying he]
theorem tC {P:Program} {e:TypeId} {q:IntKind} {w:World} {xs ys:Array Value} {l m:List Int} {len:Nat} (he:P.underlying e=some (.int q)) (hl:l.length=len) (hm:m.length=len) (hx:∀ i (h:i<len),xs[i]?=some (.int q (l[i]'Q2))) (hy:∀ i (h:i<len),ys[i]?=some (.int q (m[i]'Q2))) :
 ∀ n s,s+n=len->(Sem.run P (forIn (List.range' s n) ((none:Option Bool),()) fun i __s=>do
  let __do_lift <- part e xs i
  let __do_lift_1 <- part e ys i
  let __do_lift <- Op.equalIn 9999 e __do_lift __do_lift_1
  if __do_lift=false then pure (ForInStep.done (some false,())) else pure (ForInStep.yield (none,()))) w) = .ok (if l.drop s=m.drop s then (none,()) else (some false,())) w
 | 0,s,h=>by
  have h1:l.drop s=[]:=QG Q2;have h2:m.drop s=[]:=QG Q2;rw [h1,h2];simp
 | n+1,s,h=>by
  have ih:=tC (w:=w) he hl hm hx hy n (s+1) Q2;have e1:=zB (w:=w) he (hx s Q2);have e2:=zB (w:=w) he (hy s Q2);have e3:=FQ (w:=w) (a:=l[s]'Q2) (b:=m[s]'Q2) (d:=9998) he;rw [List.range'_succ,List.forIn_cons];have d1:l.drop s=l[s]'Q2 :: l.drop (s+1):=QD Q2;have d2:m.drop s=m[s]'Q2 :: m.drop (s+1):=QD Q2;simp only [Sem.run_bind,e1,e2,e3,Result.andThen_ok,d1,d2,W5]
  by_cases c:l[s]'Q2=m[s]'Q2
  ·have c':((l[s]'Q2)==(m[s]'Q2))=true:=by simpa using c
   rw [c'];simp only [c,true_and];simpa using ih
  have c':((l[s]'Q2)==(m[s]'Q2))=false:=by simpa using c
  rw [c'];simp [c]
theorem FT {P:Program} {t e:TypeId} {len:Nat} {inf:TypeInfo} {q:IntKind} {w:World} {xs ys:Array Value} {l m:List Int} (hu:P.underlying t=some (.array len e)) (he:P.underlying e=some (.int q)) (hi:P.info? e=some inf) (hs:inf.size=1)
 (hl:l.length=len) (hm:m.length=len) (hx:∀ i (h:i<len),xs[i]?=some (.int q (l[i]'Q2))) (hy:∀ i (h:i<len),ys[i]?=some (.int q (m[i]'Q2))):(Op.equal t (.agg xs) (.agg ys)).run P w = .ok (l==m) w:=by
 have hh:=tC (w:=w) he hl hm hx hy len 0 Q2;unfold Op.equal Op.maxDepth;rw [Op.equalIn];simp [run_underlying hu,sizeOf,typeInfo,hi,hs];simp only [V9] at hh;rw [hh]
 by_cases c:l=m
 ·simp [c]
 simp [c]
section
variable {P:Program} {X:Ctx} {S:St} {o:Oper}
theorem IW {w:World} {F:Fo} {q:IntKind} {l:List Int} {vs:Array Value} (hl:vs.size=(ints q l).length) (h:∀ i (h:i<(ints q l).length),Den w F (vs.getD i undef) (ints q l)[i]):∀ i (h:i<l.length),vs[i]?=some (.int q l[i]):=by
 intro i hi;have h1:i<(ints q l).length:=by rw [bW];exact hi
 have h2:=h i h1;have h3:i<vs.size:=by rw [hl];exact h1
 have e:(ints q l)[i] = .lit (.int q l[i]):=by simp [ints]
 rw [e,Q9,Qg h3,Option.getD_some] at h2;rw [Qg h3];generalize vs[i]=u at h2;cases h2;rfl
theorem DB {t t' e:TypeId} {len:Nat} {inf:TypeInfo} {q:IntKind} {x y:Operand} {l m:List Int} {op:BinOp} {b:Bool} (ho:o.op = .binOp op t x y t') (hu:P.underlying t=some (.array len e)) (he:P.underlying e=some (.int q)) (hi:P.info? e=some inf) (hs:inf.size=1) (hg:P.eqGuardType P.depth t=false)
 (hx:ev S x=some (.ag (ints q l))) (hy:ev S y=some (.ag (ints q m))) (hl:l.length=len) (hm:m.length=len) (hb:(op = .eql/\b=(l==m))∨(op = .neq/\b = !(l==m))):Pure P X o S (.cv (.lit (.bool b))):=by
 intro L a w r;have h:=r.ev hx;have h':=r.ev hy;generalize hv:a.eval x=v at h;generalize hv':a.eval y=v' at h';cases h with
 | @ag vs _ g1 g2 =>
  cases h' with
  | @ag vs' _ g1' g2' =>
   have e:=FT (w:=w) hu he hi hs hl hm (fun i h=>IW g1 g2 i Q2) (fun i h=>IW g1' g2' i Q2);refine ⟨.bool b,?_,.cv (.lit _)⟩;rcases hb with ⟨rfl,rfl⟩ | ⟨rfl,rfl⟩
   ·simp [execOp,ho,hv,hv',eqGuard,binOp,hg,e]
   simp [execOp,ho,hv,hv',eqGuard,binOp,hg,e]
end
section
open Go.Proofs.YtfbgaddecbiimaaGreatDoorW.PrintWords Go.Proofs.YtfbgaddecbiimaaGreatDoorW.PrintMore
variable {P:Program} {X:Ctx} {S:St} {o:Oper} {k:Nat}
theorem G1 {c:Call} {x y:Operand} {t s e e':TypeId} {z:Value} {b:Nat} {q:IntKind} {l m:List Int} (ho:o.op = .call c) (hc:c.callee = .builtin .copy) (ha:c.args = #[x,y]) (ht:c.argTypes = #[t,s]) (hu:P.underlying t=some (.slice e)) (hi:Info P e z 1 b)
 (hp:0<l.length) (hx:ev S x=some (.win k 0 l.length)) (hk:S.rows k=some (dw e' q l)) (hy:ev S y=some (.ints q m)) (hd:dm X o.dst):cf P X o S (put (setRow S k (dw e' q (kN l m))) o.dst (.int .i64 (wx l m))):=by
 obtain ⟨W,g1,g2,g3,g4⟩:=hi.parts;have H:(P.info? e).map (·.size)=some 1:=by rw [g1];simp [g3]
 intro a w ⟨L,r⟩;obtain ⟨xs,q1,q2,q3⟩:=r.row k _ hk;have K:=r.ev hx;have J:=r.ev hy;generalize hvx:a.eval x=vx at K;generalize hvy:a.eval y=vy at J;obtain ⟨g0,mm,cap0,c0,hL0,own⟩:∃ g0 mm cap0 c0,L k = .slice (some ⟨g0,0,none⟩) mm cap0/\vx = .slice (some ⟨g0,0,none⟩) l.length c0:=by
  cases K with
  | @win a0 _ _ _ g0 mm cap0 c0 r0 h hL ho hn hb ha=>exact ⟨g0,mm,cap0,c0,hL,by rw [ha hp];simp⟩
 have B:∀ w' v,(Builtin.copy_ #[t,s] o.type #[vx,vy]).run P w = .ok v w'->v = .int .i64 (wx l m)->cM X (setRow S k (dw e' q (kN l m))) L a w'->o.wp P a w (fun a' w'=>Rel X (put (setRow S k (dw e' q (kN l m))) o.dst (.int .i64 (wx l m))) a' w') (fun _ _ _=>False):=by
  rintro w' v h1 rfl h2;refine cW (v:=.int .i64 (wx l m)) (w':=w') ?_ ⟨L,h2.put hd (.cv (.lit _))⟩;simp [execOp,ho,resolve,hc,ha,ht,invoke,builtin,hvx,hvy,h1]
 have C:∃ sp sc,vy = .slice sp m.length sc/\(0<m.length->∃ (ad:Addr) (vs:Nat->Value),sp=some ad/\(∀ i,i<m.length->w.cell? (ad.add i)=some (vs i))/\∀ i (h:i<m.length),Den w (Still X S.rows L w).shut (vs i) (.lit (.int q m[i]))):=by
  cases J with
  | cv hden =>
   obtain ⟨sp,sc,h1,h2⟩:=BU hden;refine ⟨sp,sc,h1,fun h0=>?_⟩;obtain ⟨ad,vs,h3,h4,h5⟩:=h2 (by rw [bW];exact h0);refine ⟨ad,vs,h3,fun i hi=>h4 i (by rw [bW];exact hi),fun i hi=>?_⟩;have:=h5 i (by rw [bW];exact hi);simpa [ints] using this
 obtain ⟨sp,sc,A,M⟩:=C
 by_cases h0:min m.length l.length=0
 ·have p:=run_copy_none (P:=P) w t s o.type e (some ⟨g0,0,none⟩) sp l.length c0 m.length sc hu H h0;have e1:kN l m=l:=by simp [kN,h0]
  refine B w _ (by rw [own,A];exact p) (by simp [wx,h0];rfl) ?_;rw [e1,setRow_self hk];exact r
 obtain ⟨ad,vs,rfl,Q,I⟩:=M Q2;rcases q1.2 with ⟨b1,b2⟩ | ⟨g,cap,cur,b1,b2,b3,b4,b5,b6,b7⟩
 ·have:l.length=0:=b2;omega
 have eg:g0=g:=by
  rw [hL0] at b1;cases b1;rfl
 have U:min m.length l.length<=m.length:=Nat.min_le_left _ _;have R:min m.length l.length<=l.length:=Nat.min_le_right _ _;simp only [Vs] at b6 b7;have V:l.length<=cur.size:=by rw [b6];exact b4
 have G:xs.length=l.length:=by rw [q2,bW]
 let cs:=(List.range (min m.length l.length)).map vs
 have f:cs.length=min m.length l.length:=by simp [cs]
 have N:∀ v∈cs,v.oneCell'=true:=by
  intro v hv;simp only [cs,Qs,Wu] at hv;obtain ⟨i,hi,rfl⟩:=hv;exact (I i Q2).one rfl
 have D:∀ j v,cs[j]?=some v->w.cell? (ad.add j)=some v:=by
  intro j v hj;simp only [cs,VJ,Qr] at hj;obtain ⟨i,O,F⟩:=hj;obtain ⟨h3,rfl⟩:=Qx.1 O;simp at h3 F;subst F;exact Q j Q2
 have p:=run_copy_row (P:=P) w t s o.type e g 0 l.length c0 ad m.length sc cur e' cs hu H b3 f D (by rw [f];omega) N;have hg:w.grownBy (w.setRow g (cur.toList.take 0++cs++cur.toList.drop (0+cs.length)).toArray) (L k).ownBlock:=by
  rw [b1];exact ⟨rfl,rfl,rfl,by simp [World.setRow],fun j _ hj=>setRow_other w g j _ (fun e=>hj (by rw [e];rfl))⟩
 have d:(kN l m).length=l.length:=by
  simp only [kN,Qf,Qd,Qq];omega
 have u:(dw e' q (kN l m)).n=(dw e' q l).n:=d;refine B _ _ (by rw [own,A,eg];exact p) (by rw [f];rfl) (r.set (d':=dw e' q (kN l m)) (xs:=cs++xs.drop cs.length) hk hg ?_ ?_ rfl ?_ ?_)
 ·rw [b1];refine ⟨?_,.inr ⟨g,cap,_,by rw [u],b2,setRow_heap w g cur _ e' _ b3,by rw [u];exact b4,b5,?_,?_⟩⟩
  ·simp only [Qf,Qq,f,G,Vs,d];omega
  ·simp only [List.take_zero,List.nil_append,Y6,Qf,Qq,Array.length_toList,f];omega
  simp only [List.take_zero,List.nil_append,QS,Vs,d];rw [WG,Qp (by rw [f];omega),<- b7];simp only [VM]
 ·simp only [Qf,Qq,f,G,bW,d];omega
 ·simp only [bW,d]
 intro i hi;simp only [bW,d] at hi
 by_cases c1:i<cs.length
 ·have h2:=I i Q2;have e1:(cs++xs.drop cs.length).getD i undef=vs i:=by
   simp only [Q6];rw [Vm c1];simp [cs,show i<min m.length l.length by omega]
  have e2:(ints q (kN l m))[i]'(by rw [bW,d];exact hi) = .lit (.int q (m[i]'Q2)):=by
   simp only [ints,Qz,kN];rw [QC (by simp;omega)];simp
  show Den w _ _ ((ints q (kN l m))[i]'(by rw [bW,d];exact hi));rw [e1,e2];exact h2.mono (Fo.ks _ _) (fun _ _=>rfl)
 have h2:=q3 i (by simp only [bW];exact hi);have e1:(cs++xs.drop cs.length).getD i undef=xs.getD i undef:=by
  simp only [Q6];rw [Vj Q2,WI];congr 2;omega
 have e2:(ints q (kN l m))[i]'(by rw [bW,d];exact hi)=(ints q l)[i]'(by rw [bW];exact hi):=by
  simp only [ints,Qz,kN];rw [QR (by simp;omega)];simp only [V0,Qd];congr 2;congr 1;omega
 show Den w _ _ ((ints q (kN l m))[i]'(by rw [bW,d];exact hi));rw [e1,e2];exact h2
end
section
variable {P:Program} {X:Ctx} {S:St} {o:Oper}
theorem Fl {t e:TypeId} {inf:TypeInfo} {x:Operand} {hi:Option Operand} {k:Nat} {d:Row} {h:Int} (ho:o.op = .slice t x none hi none) (hu:P.underlying t=some (.slice e)) (hi':P.info? e=some inf) (hx:ev S x=some (.own k)) (hk:S.rows k=some d) (hn:0<d.n)
 (hh:bound S d.n hi=some h) (u:0<=h) (s:h<=d.n) (hkl:k=cd->∀ v,X.pin v) (hko:Nat.ble opened k=false) (hd:dm X o.dst):cf P X o S (put (setRow (kill S k) k ⟨d.e,d.sz,h.toNat,d.data.take (h.toNat*d.sz)⟩) o.dst (.own k)):=by
 intro a w ⟨L,r⟩;have e0:=@lK P X S L a w r none hi 0 h d.n;generalize hhn:h.toNat=h' at e0 ⊢;have k2:h'<=d.n:=Q2;have hr:=r.ev hx;generalize hv:a.eval x=v at hr;obtain ⟨xs,g1,g2,g3⟩:=r.row k d hk;cases hr with
 | own _ =>
  rcases g1.2 with ⟨q2,q3⟩ | ⟨g,cap,cur,q2,q3,q4,q5,q6,q7,q8⟩
  ·omega
  have e:=e0 (c:=cap) rfl hh Q2 u s q5 true;simp only [Option.map_none,Int.toNat_zero] at e;have m:h'*d.sz<=d.n*d.sz:=QJ _ k2;have q:d.data.length=d.n*d.sz:=by rw [<- g2];exact g1.1
  have j:(execOp a.eval o).run P w = .ok (.value (.slice (some ⟨g,0,none⟩) h' cap)) w:=by
   simp [execOp,ho,Instr.sliceAt,run_underlying hu,Instr.slice,hv,q2,e,sizeOf,typeInfo,hi',Addr.add]
  have f:w.ownsRow X.lo d.e d.sz (.slice (some ⟨g,0,none⟩) h' cap) h' (xs.take (h'*d.sz)):=by
   refine ⟨by rw [Qd,g1.1];omega,.inr ⟨g,cap,cur,rfl,q3,q4,Q2,q6,q7,?_⟩⟩;rw [<- q8,W3,QO m]
  refine cW j ⟨_,(r.Kn (d':=⟨d.e,d.sz,h',d.data.take (h'*d.sz)⟩) hk (fun h=>.inr (hkl h)) (w':=w) ⟨rfl,rfl,rfl,Qn _,fun _ _ _=>rfl⟩ f (by simp [g2]) (fun b hb=>.inl ?_) (fun i hi=>?_)).put hd ?_⟩
  ·rw [q2];exact hb
  ·simp only [Qd] at hi;have p:i<d.data.length:=Q2;have:=g3 i p;simp only [Fo.at,hko,cond_false] at this;have l:i<h'*d.sz:=Q2;simp only [Q6] at this ⊢;rw [Vx l,V6];exact this
  have e1:Value.slice (some ⟨g,0,none⟩) h' cap=bh L k (.slice (some ⟨g,0,none⟩) h' cap) k:=by simp [bh]
  conv=>arg 5;rw [e1]
  exact .own (r:=⟨d.e,d.sz,h',d.data.take (h'*d.sz)⟩) (by simp [setRow])
end
open Go.Proofs.YtfbgaddecbiimaaGreatDoorW.PrintWords
def FnG (P:Program) (f:FuncId) (args:List PV) (R R':Row):Prop:=∀ (F:Nat->Prop) (w:World) (vs:Array Value) (l:Value) (lo:Nat),(∀ b,F b->b<w.heap.size)->lo<=w.heap.size->vs.size=args.length->(∀ i (h:i<args.length),cQ w (.of F) (dz R) (dH l) (vs.getD i undef) args[i]) ->
 Holds lo w F l R->(∀ b,l.ownBlock=some b->¬ F b) ->
 Calls P f vs w fun e w'=>∃ v,e = .returned v/\w.grownBy w' l.ownBlock/\(∃ xs,w'.ownsRow lo R'.e R'.sz v R'.n xs/\xs.length=R'.data.length/\∀ i (h:i<R'.data.length),Den w' (.of fun b=>(F b∨(w.heap.size<=b/\b<w'.heap.size))/\v.ownBlock≠some b) (xs.getD i undef) R'.data[i]) /\
  ∀ b,v.ownBlock=some b->l.ownBlock=some b∨w.heap.size<=b
section
variable {P:Program} {X:Ctx} {S:St} {o:Oper} {L:mJ} {a:Act} {w w':World}
theorem G4 {f:FuncId} {fn:Func} {c:Code} {args:List PV} {R R':Row} {t:Tmp} (hf:P.funcs[f]?=some fn) (hb:fn.body=some c) (hn:args.length<=fn.ntmps) (hres:fn.results = #[.tmp t])
 (h:∀ X:Ctx,X.nt=fn.ntmps->(∀ v,X.pin v)->kp P X c ⟨uk args,dz R⟩ (fun e S=>(e = .ret∨e = .normal)/\∃ k,Nat.ble opened k=false/\S.env t=some (.own k)/\S.rows k=some R')):FnG P f args R R':=by
 intro F w vs l lo hF hlo hs ha hR hlF
 let X:Ctx:=⟨w,fn.ntmps,F,hF,l.ownBlock,lo,hlo,fun _=>True⟩
 have only:∀ k d,dz R k=some d->k=cd/\d=R:=by
  intro k d h;unfold dz at h;split at h
  ·rename_i e;exact ⟨e,by cases h;rfl⟩
  cases h
 have own:∀ b,MX (dz R) (dH l) b->l.ownBlock=some b:=by
  rintro b ⟨k,d,h,m⟩;obtain ⟨rfl,rfl⟩:=only k d h;simpa [dH] using m
 have st:∀ b,F b->Still X (dz R) (dH l) w b:=fun b h=>⟨.inl h,fun m=>hlF b (own b m) h⟩;have r0:cM X ⟨uk args,dz R⟩ (dH l) { tmps:=vs++Array.replicate (fn.ntmps-vs.size) undef,defers:=[] } w:=by
  refine ⟨by simp;show vs.size+(fn.ntmps-vs.size)=fn.ntmps;omega,rfl,World.grownBy.refl _ _,(fun k d h=>?_),(fun k k' d d' b h h' _ _=>by rw [(only k d h).1,(only k' d' h').1]),(fun k d b h m=>?_),(fun d h=>trivial),fun t q hq=>?_⟩
  ·obtain ⟨rfl,rfl⟩:=only k d h;obtain ⟨xs,h1,m,h3⟩:=hR;exact ⟨xs,by simpa [dH] using h1,m,fun i hi=>((h3 i hi).mono (Fo.jG (F:=.of F) st) (fun _ _=>rfl)).mono (Fo.ks _ _) (fun _ _=>rfl)⟩
  ·obtain ⟨rfl,rfl⟩:=only k d h;exact .inr ⟨rfl,by simpa [dH] using m⟩
  obtain ⟨ht,rfl⟩:=Qx.1 hq;refine ⟨by show t<fn.ntmps;omega,?_⟩;have hv:=(ha t ht).mono (F':=Still X (dz R) (dH l) w) (w':=w) (rows':=dz R) (L':=dH l) ⟨st,fun _ _ h=>h.elim,fun _ h=>h.elim⟩ (fun _ _=>rfl) (fun k r h=>⟨h,rfl⟩);have e:(vs++Array.replicate (fn.ntmps-vs.size) undef).getD t undef=vs.getD t undef:=by
   simp only [Q9];rw [Wc Q2]
  show cQ w (Still X (dz R) (dH l) w) (dz R) (dH l) ((vs++Array.replicate (fn.ntmps-vs.size) undef).getD t undef) args[t];rw [e];exact hv
 refine calls_of_wp hf hb (Code.wp_mono ?_ (h X rfl (fun _=>trivial) _ _ ⟨dH l,r0⟩));rintro e a w' ⟨S,⟨he,k,hko,hek,hrk⟩,L,r⟩;have hv:=(r.env t _ hek).2;obtain ⟨xs,q1,q2,q3⟩:=r.row k R' hrk;have j:∀ i (h:i<R'.data.length),Den w' (Still X S.rows L w').shut (xs.getD i undef) R'.data[i]:=fun i hi=>by
  have h:=q3 i hi;simp only [Fo.at,hko,cond_false] at h;exact h
 have hr:(results fn a.tmps).run P w' = .ok (a.tmps.getD t undef) w':=by
  rw [lL,hres];simp [qg]
 generalize a.tmps.getD t undef=v at hv hr;have hL:v=L k:=by cases hv with | own h=>rfl
 have g:a.defers=[]/\∃ v,(results fn a.tmps).run P w' = .ok v w'/\∃ u,Ending.returned v = .returned u/\w.grownBy w' l.ownBlock/\(∃ xs,w'.ownsRow lo R'.e R'.sz u R'.n xs/\xs.length=R'.data.length/\∀ i (h:i<R'.data.length),Den w' (.of fun b=>(F b∨(w.heap.size<=b/\b<w'.heap.size))/\u.ownBlock≠some b) (xs.getD i undef) R'.data[i]) /\
  ∀ b,u.ownBlock=some b->l.ownBlock=some b∨w.heap.size<=b :=
  ⟨r.defers,v,hr,v,rfl,r.below,⟨xs,by rw [hL];exact q1,q2,fun i hi=>(j i hi).mono ⟨fun b hb=>⟨hb.1,fun e=>hb.2 ⟨k,R',hrk,by rw [<- hL];exact e⟩⟩,fun _ _ h=>h.elim,fun _ h=>h.elim⟩ (fun _ _=>rfl)⟩,fun b hb=>by
   rw [hL] at hb;rcases r.mine k R' b hrk hb with h | h
   ·exact .inr h
   exact .inl h.2⟩
 rcases he with rfl | rfl
 ·exact g
 exact g
theorem KD {c:Call} {f:FuncId} {fn:Func} {args args':List PV} {k:Nat} {R R' R0:Row} (ho:o.op = .call c) (hc:c.callee = .value (.func f)) (hf:P.funcs[f]?=some fn) (hn:fn.name≠"runtime.NumGoroutine") (hb:fn.body≠none)
 (h:FnG P f args R R') (hk:S.rows k=some R0) (hR:R0=R) (ha:aV S c.args.toList=some args') (hargs:args'=args.map (Jf k)) (hlend:args.all e9=true) (hkl:k=cd->∀ v,X.pin v) (hd:dm X o.dst) (hko:Nat.ble opened k=false):cf P X o S (put (setRow (kill S k) k R') o.dst (.own k)):=by
 subst hR;intro a w ⟨L,r⟩;obtain ⟨g1,g2⟩:=BO r _ _ ha;have hr:(execOp a.eval o).run P w = .ok (.enter f (c.args.map a.eval)) w:=by
  have m:a.eval (.func f) = .func (.func f) #[] #[]:=rfl;simp [execOp,ho,resolve,hc,m,Deferred.ofValue,invoke,callFunc,hf,hn,hb]
 have d:c.args.toList.length=args.length:=by rw [g1,hargs];simp
 unfold Oper.wp;rw [hr,Oper.upon_enter];refine (h (Still X S.rows L w).b w (c.args.map a.eval) (L k) X.lo (fun b hb=>Still.lt r.below hb) (Qu X.hlo r.below.size) (by simpa using d) (fun i hi=>?_) (by obtain ⟨xs,q1,q2,q3⟩:=r.row k _ hk;simp only [Fo.at,hko,cond_false] at q3;exact ⟨xs,q1,q2,q3⟩) (fun b hb hs=>hs.2 ⟨k,_,hk,hb⟩)).mono ?_
 ·have g:i<c.args.size:=by
   have:c.args.size=args.length:=by simpa using d
   omega
  have l:i<args'.length:=by rw [hargs];simpa using hi
  have:=g2 i l (by simpa using g);have e:args'[i]=Jf k args[i]:=by simp [hargs]
  have hp:e9 args[i]=true:=QA.1 hlend _ (Qi hi);have:=this.lend e hp hk;show cQ w (Still X S.rows L w).shut (dz R0) (dH (L k)) ((c.args.map a.eval).getD i undef) args[i];simpa [Q9,Qg g] using this
 rintro e w' ⟨v,rfl,hg,⟨xs,q1,q2,q3⟩,hvb⟩;have hL:bh L k v k=v:=by simp [bh]
 have r2:cM X (setRow (kill S k) k R') (bh L k v) a w':=r.Fe hk (fun h=>.inr (hkl h)) hg q1 q2 hvb (fun st sto same i hi=>((q3 i hi).mono (F':=(Still X (setRow (kill S k) k R').rows (bh L k v) w').shut) ⟨fun b hb=>by
  rcases hb.1 with h1 | ⟨h1,h2⟩
  ·exact st b h1
  refine ⟨.inr ⟨Qu r.below.size h1,h2⟩,?_⟩;rintro ⟨j,d',h3,h4⟩
  by_cases c:j=k
  ·subst c;rw [hL] at h4;exact hb.2 h4
  simp only [setRow] at h3;rw [Qc c] at h3;simp only [bh] at h4;rw [Qc c] at h4;have hj:∃ d0,S.rows j=some d0:=by
   simp only [kill] at h3;cases e:S.rows j with
   | none=>simp [e] at h3
   | some d0=>exact ⟨d0,rfl⟩
  obtain ⟨d0,hj⟩:=hj;have:=(r.oG hj b h4).2;omega,fun _ _ h=>h.elim,fun _ h=>h.elim⟩ (fun _ _=>rfl)).mono (Fo.ks _ _) (fun _ _=>rfl))
 refine ⟨_,r2.put hd ?_⟩
 conv=>arg 5;rw [<- hL]
 exact .own (r:=R') (by simp [setRow])
end
def lD:List (ByteArray×Int)->ByteArray->Option (Nat×Int)
 | [],_=>none
 | x :: l,k=>match k.data.toList==x.1.data.toList with
  | true=>some (0,x.2)
  | false=>(lD l k).map fun y=>(y.1+1,y.2)
def lC:List (ByteArray×Int)->ByteArray->Int->List (ByteArray×Int)
 | [],k,n=>[(k,n)]
 | x :: l,k,n=>match k.data.toList==x.1.data.toList with
  | true=>(k,n) :: l
  | false=>x :: lC l k n
theorem beqB (a b:ByteArray):(a==b)=(a.data.toList==b.data.toList):=by
 rw [beq_toListBytes,ByteArray.toList_eq,ByteArray.toList_eq]
theorem Jc (a b:ByteArray) (h:(a.data.toList==b.data.toList)=true):a=b:=by
 have:=eq_of_beq h;obtain ⟨⟨x⟩⟩:=a;obtain ⟨⟨y⟩⟩:=b;have h2:x=y:=this;rw [h2]
abbrev wu (l:List (ByteArray×Int)):List (Value×Value):=l.map fun x=>(.string x.1,.int .i64 x.2)
theorem EB (k:ByteArray):∀ (l:List (ByteArray×Int)) (es:List MapEntry) (i:Nat),es.map (fun e=>(e.key,e.val))=wu l->Instr.findNow .string (.string k) es i=some ((lD l k).map fun x=>(i+x.1,.int .i64 x.2))
 | [],[],i,h=>rfl
 | [],e :: es,i,h=>by cases h
 | x :: l,[],i,h=>by cases h
 | x :: l,e :: es,i,h=>by
  simp only [wu,QV,W5,Vy] at h;obtain ⟨⟨h1,h2⟩,h3⟩:=h;have ih:=EB k l es (i+1) h3;simp only [Instr.findNow,Instr.sameNow,h1,h2,beqB];rw [lD];cases hb:k.data.toList==x.1.data.toList with
  | true=>rfl
  | false =>
   simp only [ih];cases lD l k with
   | none=>rfl
   | some y=>simp only [Option.map_some,Yx,Yz 1]
theorem Da {P:Program} {w:World} {kt:TypeId} {k:ByteArray} {l:List (ByteArray×Int)} {es:List MapEntry} (hk:P.underlying kt=some .string) (h:es.map (fun e=>(e.key,e.val))=wu l):(Instr.findKey kt (.string k) es).run P w = .ok ((lD l k).map fun x=>(x.1,.int .i64 x.2)) w:=by
 have:=EB k l es 0 h;simp only [Instr.findKey,Sem.run_bind,run_underlying hk,Result.andThen_ok,this];simp
theorem FR {P:Program} {w:World} {kt:TypeId} {k:ByteArray} {b:Bool} (n:Nat) (hk:P.underlying kt=some .string):(Instr.checkKey b (n+1) kt (.string k)).run P w = .ok () w:=by
 rw [Instr.checkKey];simp only [Sem.run_bind,run_underlying hk,Result.andThen_ok];simp
theorem zC {P:Program} {w:World} {kt:TypeId} {k:ByteArray} {b:Bool} (hk:P.underlying kt=some .string):(Instr.checkKey b 10000 kt (.string k)).run P w = .ok () w:=FR 9999 hk
theorem AU {P:Program} {w:World} {t kt et b clock:Nat} {arr:Array MapEntry} {k:ByteArray} {l:List (ByteArray×Int)} (hu:P.underlying t=some (.map kt et)) (hk:P.underlying kt=some .string) (hz:(zeroValue et).run P w = .ok (.int .i64 0) w) (hb:w.heap[b]?=some (.map arr clock)) (h:arr.toList.map (fun e=>(e.key,e.val))=wu l) :
 (Instr.lookup t (.map (some b)) (.string k) true).run P w = .ok (.tuple #[.int .i64 (match lD l k with | some x=>x.2 | none=>0),.bool (lD l k).isSome]) w:=by
 have h1:=Da (P:=P) (w:=w) (k:=k) hk h;have h2:=zC (P:=P) (w:=w) (k:=k) (b:=arr.isEmpty) hk;have h3:=MapKept.run_getObj_map (P:=P) hb;simp only [Instr.lookup,Sem.run_bind,run_underlying hu,Result.andThen_ok,h3,h2,h1,Sem.run_pure];cases lD l k with
 | none=>simp [hz]
 | some x=>simp
theorem D1:∀ (l:List (ByteArray×Int)) (es:List MapEntry) (k:ByteArray) (i:Nat) (v n:Int),es.map (fun e=>(e.key,e.val))=wu l->lD l k=some (i,v)->(es.modify i fun e=>{ e with key:=.string k,val:=.int .i64 n }).map (fun e=>(e.key,e.val))=wu (lC l k n)/\∃ e,es[i]?=some e/\e.key = .string k
 | [],es,k,i,v,n,h,hi=>by cases hi
 | x :: l,[],k,i,v,n,h,hi=>by cases h
 | x :: l,e :: es,k,i,v,n,h,hi=>by
  simp only [wu,QV,W5,Vy] at h;obtain ⟨⟨h1,h2⟩,h3⟩:=h;rw [lD] at hi;rw [lC];cases hb:k.data.toList==x.1.data.toList with
  | true =>
   rw [hb] at hi;cases hi;have e1:=Jc _ _ hb;subst e1;refine ⟨?_,e,rfl,h1⟩;simp only [List.modify_cons,Qk,QV,wu,h3]
  | false =>
   rw [hb] at hi;simp only at hi;obtain ⟨y,hy,hy2⟩:=Qr.1 hi;cases hy2;obtain ⟨g1,e',g2,g3⟩:=D1 l es k y.1 y.2 n h3 hy;refine ⟨?_,e',by simpa using g2,g3⟩;simp only [List.modify_succ_cons,QV,wu,h1,h2];rw [g1]
theorem DZ:∀ (l:List (ByteArray×Int)) (k:ByteArray) (n:Int),lD l k=none->lC l k n=l++[(k,n)]
 | [],k,n,h=>rfl
 | x :: l,k,n,h=>by
  rw [lD] at h;rw [lC];cases hb:k.data.toList==x.1.data.toList with
  | true=>rw [hb] at h;cases h
  | false =>
   rw [hb] at h;simp only [Option.map_eq_none_iff] at h;simp only [DZ l k n h,List.cons_append]
theorem KZ {P:Program} {w:World} (k:ByteArray):(Instr.keyThatStays (.string k) (.string k)).run P w = .ok (.string k) w:=by
 have:Instr.sameBits 10000 (.string k) (.string k)=true:=by
  show (k==k)=true;rw [beqB];exact Yh _
 simp [Instr.keyThatStays,this]
theorem AR {P:Program} {w:World} {t kt et b clock:Nat} {arr:Array MapEntry} {k:ByteArray} {n:Int} {l:List (ByteArray×Int)} (hu:P.underlying t=some (.map kt et)) (hk:P.underlying kt=some .string) (hb:w.heap[b]?=some (.map arr clock)) (h:arr.toList.map (fun e=>(e.key,e.val))=wu l) :
 ∃ arr' clock',(Instr.mapUpdate t (.map (some b)) (.string k) (.int .i64 n)).run P w = .ok () { w with heap:=w.heap.setIfInBounds b (.map arr' clock') }/\arr'.toList.map (fun e=>(e.key,e.val))=wu (lC l k n):=by
 have h1:=Da (P:=P) (w:=w) (k:=k) hk h;have h2:=zC (P:=P) (w:=w) (k:=k) (b:=false) hk;have h3:=MapKept.run_getObj_map (P:=P) hb;have h4:∀ o,(setObj b o).run P w = .ok () { w with heap:=w.heap.setIfInBounds b o }:=fun o=>MapKept.run_setObj_map (P:=P) o hb;cases hm:lD l k with
 | none =>
  refine ⟨arr.push { key:=.string k,val:=.int .i64 n,born:=clock },clock+1,?_,?_⟩
  ·simp only [Instr.mapUpdate,Sem.run_bind,run_underlying hu,Result.andThen_ok,h3,h2,h1,hm,Option.map_none,h4]
  rw [DZ l k n hm];simp only [Array.toList_push,X6,h,wu,QV,WD]
 | some x =>
  obtain ⟨g1,e,g2,g3⟩:=D1 l arr.toList k x.1 x.2 n h hm;have a:arr[x.1]?=some e:=by rw [<- V1];exact g2
  refine ⟨arr.modify x.1 fun e=>{ e with key:=.string k,val:=.int .i64 n },clock,?_,?_⟩
  ·simp only [Instr.mapUpdate,Sem.run_bind,run_underlying hu,Result.andThen_ok,h3,h2,h1,hm,Option.map_some,a,Option.getD_some,g3,KZ,h4]
  rw [Array.toList_modify];exact g1
section
variable {P:Program} {X:Ctx} {S:St} {o:Oper}
theorem Fm {t:TypeId} (ho:o.op = .makeMap t none) (hd:dm X o.dst):cf P X o S (put S o.dst (.map [])):=by
 intro a w ⟨L,r⟩;have hb:Below w.heap.size w (w.alloc (.map #[] 0)):=by
  exact ⟨rfl,rfl,rfl,Q3,fun k hk=>Below.heap_alloc _ _ _ Q2⟩
 have r2:=r.wide hb;refine cW (v:=.map (some w.heap.size)) (w':=w.alloc (.map #[] 0)) ?_ ⟨L,r2.put hd (.map (arr:=#[]) (clock:=0) ?_ r.below.size ?_ rfl)⟩
 ·simp [execOp,ho,run_makeMap]
 ·exact jq r hb _ (.inr ⟨Qn _,Q3⟩)
 exact (MapKept.heap_alloc w _).1
theorem DA {t kt et:TypeId} {inf:TypeInfo} {x y:Operand} {l:List (ByteArray×Int)} {k:ByteArray} (ho:o.op = .lookup t x y true) (hu:P.underlying t=some (.map kt et)) (hk:P.underlying kt=some .string) (hi:P.info? et=some inf) (hz:inf.zero=some (.int .i64 0)) (hx:ev S x=some (.map l)) (hy:ev S y=some (.cv (.lit (.string k)))) :
 Pure P X o S (.tup [.cv (.lit (.int .i64 (match lD l k with | some x=>x.2 | none=>0))),.cv (.lit (.bool (lD l k).isSome))]):=by
 intro L a w r;have h:=r.ev hx;generalize hv:a.eval x=v at h;cases h with
 | map hF hn hb he =>
  have b:(zeroValue et).run P w = .ok (.int .i64 0) w:=by simp [zeroValue,typeInfo,hi,hz]
  have e:=AU (k:=k) hu hk b hb he;refine ⟨.tuple #[.int .i64 (match lD l k with | some x=>x.2 | none=>0),.bool (lD l k).isSome],?_,.tup rfl (fun i hi=>?_)⟩
  ·simp [execOp,ho,hv,(r.ev hy).lit,e]
  match i,hi with
  | 0,_=>exact .cv (.lit _)
  | 1,_=>exact .cv (.lit _)
def yt:PV->Bool
 | .map _=>true
 | .tup _=>true
 | _=>false
def qC (S:St):St:=⟨fun t=>(S.env t).bind fun p=>bif yt p then none else some p,S.rows⟩
theorem Mx {w w':World} {b clock:Nat} {arr:Array MapEntry} {q:Obj} (hq:∃ a c,q = .map a c) (hb:w.heap[b]?=some (.map arr clock)) (hw:w'={ w with heap:=w.heap.setIfInBounds b q }) (a:Addr):w'.cell? a=w.cell? a:=by
 by_cases c:a.block=b
 ·obtain ⟨a1,c1,rfl⟩:=hq;have h2:w'.heap[b]?=some (.map a1 c1):=by
   have:=(QW.1 hb).1;rw [hw];simp [this]
  simp only [World.cell?,c,hb,h2]
 apply World.cell?_of_block;rw [hw];simp only [VH];rw [Qc (fun e=>c e.symm)]
theorem Den.other {w w':World} {F:Fo} {v:Value} {c:CV} (h:Den w F v c) (hw:∀ a,w'.cell? a=w.cell? a):Den w' F v c:=by
 induction h with
 | lit v=>exact .lit v
 | nil a c h=>exact .nil a c h
 | row ad n c cs vs hs hF' hn hc hd ih=>exact .row ad n c cs vs hs hF' hn (fun i hi=>(hw _).trans (hc i hi)) (fun i hi=>ih i hi)
 | own h h1 h2=>exact .own h h1 h2
 | any h1 h2=>exact .any h1 h2
theorem cQ.other {w w':World} {F:Fo} {rows:Nat->Option Row} {L:mJ} {v:Value} {p:PV} (h:cQ w F rows L v p) (hp:yt p=false) (hw:∀ a,w'.cell? a=w.cell? a):cQ w' F rows L v p:=by
 cases h with
 | cv h=>exact .cv (h.other hw)
 | ag hl h=>exact .ag hl (fun i hi=>(h i hi).other hw)
 | tup hl h=>cases hp
 | own h=>exact .own h
 | win h hL h1 hn hb ha=>exact .win h hL h1 hn hb ha
 | pr vs hs hF' hc hd=>exact .pr vs hs hF' (fun i hi=>(hw _).trans (hc i hi)) (fun i hi=>(hd i hi).other hw)
 | po h hL h1=>exact .po h hL h1
 | map=>cases hp
theorem xa {t kt et:TypeId} {tm:Nat} {y z:Operand} {l:List (ByteArray×Int)} {k:ByteArray} {n:Int} {L:mJ} {a:Act} {w:World} (r:cM X S L a w) (ho:o.op = .mapUpdate t (.tmp tm) y z) (hu:P.underlying t=some (.map kt et)) (hk:P.underlying kt=some .string) (hx:S.env tm=some (.map l)) (hy:ev S y=some (.cv (.lit (.string k)))) (hz:ev S z=some (.cv (.lit (.int .i64 n)))) :
 ∃ w',(execOp a.eval o).run P w = .ok .skip w'/\cM X (put (qC S) (some tm) (.map (lC l k n))) L a w':=by
 obtain ⟨F,h⟩:=r.env tm _ hx;generalize hv:a.tmps.getD tm undef=v at h;cases h with
 | @map b clock arr _ hF hn hb he =>
  obtain ⟨g,f,e1,e2⟩:=AR (P:=P) (k:=k) (n:=n) hu hk hb he;have m:=Mx ⟨g,f,rfl⟩ hb (rfl:_={ w with heap:=w.heap.setIfInBounds b (.map g f) });generalize hw':({ w with heap:=w.heap.setIfInBounds b (.map g f) }:World)=w' at e1 m;have s:w'.heap.size=w.heap.size:=by rw [<- hw'];simp
  have C:∀ j,j≠b->w'.heap[j]?=w.heap[j]?:=by
   intro j hj;rw [<- hw'];simp only [VH];rw [Qc (fun e=>hj e.symm)]
  have hg:w.grownBy w' (some b):=⟨by rw [<- hw'],by rw [<- hw'],by rw [<- hw'],by rw [s];exact Qn _,fun j _ hj=>C j (fun e=>hj (by rw [e]))⟩;have x:X.B<=b:=hn;have q:Still X S.rows L w'=Still X S.rows L w:=by simp only [Still,s]
  have r2:cM X (qC S) L a w':=by
   refine ⟨r.size,r.defers,oS r.below hg (fun b' hb'=>by cases hb';exact .inl x),fun j d hd=>?_,r.apart,r.mine,r.pin,fun u p hp=>?_⟩
   ·obtain ⟨xs,q1,q2,q3⟩:=r.row j d hd;have D:(L j).ownBlock≠some b:=fun e=>hF.2 ⟨j,d,hd,e⟩;refine ⟨xs,q1.kept hg (.inr D),q2,fun i hi=>?_⟩;show Den w' ((Still X S.rows L w').at j) _ _;rw [q];exact (q3 i hi).other m
   simp only [qC] at hp;obtain ⟨p0,h1,h2⟩:=Q5 hp;cases hm:yt p0 with
   | true=>rw [hm] at h2;cases h2
   | false =>
    rw [hm] at h2;cases h2;obtain ⟨g1,g2⟩:=r.env u p h1;refine ⟨g1,?_⟩;show cQ w' (Still X S.rows L w') S.rows L _ _;rw [q];exact g2.other hm m
  have A:(execOp a.eval o).run P w = .ok .skip w':=by
   have ex:a.eval (.tmp tm) = .map (some b):=hv;simp [execOp,ho,ex,(r.ev hy).lit,(r.ev hz).lit,e1]
  have r3:cM X (put (qC S) (some tm) (.map (lC l k n))) L a w':=by
   refine ⟨r2.size,r2.defers,r2.below,r2.row,r2.apart,r2.mine,r2.pin,fun u p hp=>?_⟩;simp only [put] at hp
   by_cases c:u=tm
   ·rw [Qk c] at hp;cases hp;subst c;refine ⟨F,?_⟩;show cQ w' (Still X S.rows L w') S.rows L _ _;rw [q,hv];refine .map (arr:=g) (clock:=f) hF hn ?_ e2;rw [<- hw'];have:=(QW.1 hb).1;simp [this]
   rw [Qc c] at hp;exact r2.env u p hp
  exact ⟨w',A,r3⟩
theorem I4 {t kt et:TypeId} {tm:Nat} {y z:Operand} {l:List (ByteArray×Int)} {k:ByteArray} {n:Int} (ho:o.op = .mapUpdate t (.tmp tm) y z) (hdst:o.dst=none) (hu:P.underlying t=some (.map kt et)) (hk:P.underlying kt=some .string) (hx:S.env tm=some (.map l)) (hy:ev S y=some (.cv (.lit (.string k)))) (hz:ev S z=some (.cv (.lit (.int .i64 n)))) :
 cf P X o S (put (qC S) (some tm) (.map (lC l k n))):=by
 intro a w ⟨L,r⟩;obtain ⟨w',b,r3⟩:=xa r ho hu hk hx hy hz;unfold Oper.wp;rw [b];show Rel X _ (a.put o.dst undef) w';rw [hdst];exact ⟨L,r3⟩
end
section
variable {P:Program} {X:Ctx} {S:St} {o:Oper}
theorem I5 {c:Call} {f:FuncId} {fn:Func} {args args':List PV} {k:Nat} {R R':Row} {j:Nat} (ho:o.op = .call c) (hc:c.callee = .value (.func f)) (hf:P.funcs[f]?=some fn) (hn:fn.name≠"runtime.NumGoroutine") (hb:fn.body≠none)
 (h:FnG P f args R R') (hk:S.rows k=none) (hkl:k≠cd) (hR:R=⟨R.e,R.sz,0,[]⟩) (ha:aV S c.args.toList=some args') (hj:c.args.toList[j]?=some (.const (.slice none 0 0))) (hargs:args=args'.set j (.own cd)) (hcl:args'.all closed=true) (hd:dm X o.dst) (hko:Nat.ble opened k=false):cf P X o S (put (setRow (kill S k) k R') o.dst (.own k)):=by
 intro a w ⟨L0,r0⟩;have r:=r0.sO hk hkl R.e R.sz;rw [<- hR] at r;generalize hL:bh L0 k (.slice none 0 0)=L at r;have s:L k = .slice none 0 0:=by rw [<- hL];simp [bh]
 obtain ⟨g1,g2⟩:=wQ r0 _ _ ha hcl;have hr:(execOp a.eval o).run P w = .ok (.enter f (c.args.map a.eval)) w:=by
  have x:a.eval (.func f) = .func (.func f) #[] #[]:=rfl;simp [execOp,ho,resolve,hc,x,Deferred.ofValue,invoke,callFunc,hf,hn,hb]
 have l:c.args.toList.length=args.length:=by rw [g1,hargs];simp
 unfold Oper.wp;rw [hr,Oper.upon_enter];have n:(setRow S k R).rows k=some R:=by simp [setRow]
 have u:∀ b,Still X S.rows L0 w b->Still X (setRow S k R).rows L w b:=by
  intro b hb;refine ⟨hb.1,?_⟩;rintro ⟨q,d,h1,h2⟩
  by_cases cq:q=k
  ·subst cq;rw [s] at h2;cases h2
  simp only [setRow] at h1;rw [Qc cq] at h1;rw [<- hL] at h2;simp only [bh] at h2;rw [Qc cq] at h2;exact hb.2 ⟨q,d,h1,h2⟩
 refine (h (Still X (setRow S k R).rows L w).b w (c.args.map a.eval) (L k) X.lo (fun b hb=>Still.lt r.below hb) (Qu X.hlo r.below.size) (by simpa using l) (fun i hi=>?_) (by obtain ⟨xs,q1,q2,q3⟩:=r.row k _ n;simp only [Fo.at,hko,cond_false] at q3;exact ⟨xs,q1,q2,q3⟩) (fun b hb hs=>hs.2 ⟨k,_,n,hb⟩)).mono ?_
 ·have m:i<c.args.size:=by
   have:c.args.size=args.length:=by simpa using l
   omega
  have e0:(c.args.map a.eval).getD i undef=a.eval c.args[i]:=by simp [Q9,Qg m]
  rw [e0]
  by_cases cj:i=j
  ·subst cj;have e1:c.args[i] = .const (.slice none 0 0):=by
    have:=hj;rw [V1,Qg m] at this;exact QF this
   have e2:args[i] = .own cd:=by
    have t:i<args'.length:=by rw [hargs] at hi;simpa using hi
    simp only [hargs];simp
   rw [e1,e2];have e3:a.eval (.const (.slice none 0 0))=dH (L k) cd:=by rw [s];rfl
   rw [e3];exact .own (r:=R) (by simp [dz])
  have t:i<args'.length:=by rw [hargs] at hi;simpa using hi
  have:=g2 i t (by simpa using m);have e2:args[i]=args'[i]:=by
   simp only [hargs];rw [List.getElem_set_ne (fun e=>cj e.symm)]
  rw [e2];have e4:a.eval c.args.toList[i]=a.eval c.args[i]:=Q3;rw [e4] at this;exact this.mono ⟨u,fun _ _ h=>h.elim,fun _ h=>h.elim⟩ (fun _ _=>rfl) (fun k r h=>by cases h)
 rintro e w' ⟨v,rfl,hg,⟨xs,q1,q2,q3⟩,hvb⟩;have p:bh L k v k=v:=by simp [bh]
 have g:setRow (kill (setRow S k R) k) k R'=setRow (kill S k) k R':=by
  refine pY rfl (funext fun q=>?_);simp only [setRow,kill]
  by_cases c:q=k
  ·rw [Qk c,Qk c]
  rw [Qc c,Qc c,Qc c]
 have r2:cM X (setRow (kill (setRow S k R) k) k R') (bh L k v) a w':=r.Fe n (fun h=>absurd h hkl) hg q1 q2 hvb (fun st sto g i hi=>((q3 i hi).mono (F':=(Still X (setRow (kill (setRow S k R) k) k R').rows (bh L k v) w').shut) ⟨fun b hb=>by
  rcases hb.1 with h1 | ⟨h1,h2⟩
  ·exact st b h1
  refine ⟨.inr ⟨Qu r.below.size h1,h2⟩,?_⟩;rintro ⟨q,d',h3,h4⟩
  by_cases cq:q=k
  ·subst cq;rw [p] at h4;exact hb.2 h4
  simp only [setRow,kill] at h3;rw [Qc cq] at h3;simp only [bh] at h4;rw [Qc cq] at h4;obtain ⟨d0,hq,_⟩:=Qr.1 h3;have:=(r.oG hq b h4).2;omega,fun _ _ h=>h.elim,fun _ h=>h.elim⟩ (fun _ _=>rfl)).mono (Fo.ks _ _) (fun _ _=>rfl))
 rw [g] at r2;refine ⟨_,r2.put hd ?_⟩
 conv=>arg 5;rw [<- p]
 exact .own (r:=R') (by simp [setRow])
end
end Go.Proofs.YtfbgaddecbiimaaGreatDoor.V
end
section
namespace Go.Proofs.YtfbgaddecbiimaaGreatDoor.E
open Go.RowKit Go.Proofs.YtfbgaddecbiimaaGreatDoorW.PrintWords Go.Proofs.YtfbgaddecbiimaaGreatDoor.V
inductive Ty where
 | int (k:IntKind)
 | bool
 | str
 | fn
 | unit
 | list (e:Ty)
 | arr (n:Nat) (e:Ty)
 | pair (a b:Ty)
@[reducible] def Ty.den:Ty->Type
 | .int _=>Int
 | .bool=>Bool
 | .str=>ByteArray
 | .fn=>Nat
 | .unit=>Unit
 | .list e=>List e.den
 | .arr _ e=>List e.den
 | .pair a b=>a.den×b.den
def Ty.sz:Ty->Nat
 | .pair a b=>a.sz+b.sz
 | .arr n e=>n*e.sz
 | .unit=>0
 | _=>1
def Ty.zero:(t:Ty)->t.den
 | .int _=>(0:Int)
 | .bool=>false
 | .str=>(⟨#[]⟩:ByteArray)
 | .fn=>(0:Nat)
 | .unit=>()
 | .list _=>[]
 | .arr n e=>List.replicate n e.zero
 | .pair a b=>(a.zero,b.zero)
def oZ {α:Type} (enc:α->List CV) (z:α):Nat->List α->List CV
 | 0,_=>[]
 | n+1,[]=>enc z++oZ enc z n []
 | n+1,a :: l=>enc a++oZ enc z n l
def Ty.enc:(t:Ty)->t.den->List CV
 | .int k,n=>[.lit (.int k n)]
 | .bool,b=>[.lit (.bool b)]
 | .str,s=>[.lit (.string s)]
 | .fn,f=>[.lit (.func (.func f) #[] #[])]
 | .unit,_=>[]
 | .list e,l=>[.row l.length (l.flatMap e.enc)]
 | .arr n e,l=>oZ e.enc e.zero n l
 | .pair a b,x=>a.enc x.1++b.enc x.2
def Ty.pv:(t:Ty)->t.den->PV
 | .int k,n=>.cv (.lit (.int k n))
 | .bool,b=>.cv (.lit (.bool b))
 | .str,s=>.cv (.lit (.string s))
 | .fn,f=>.cv (.lit (.func (.func f) #[] #[]))
 | .unit,_=>.ag []
 | .list e,l=>.cv (.row l.length (l.flatMap e.enc))
 | .arr n e,l=>.ag (oZ e.enc e.zero n l)
 | .pair a b,x=>.ag (a.enc x.1++b.enc x.2)
def Ty.pvl:(t:Ty)->t.den->List PV
 | .pair a b,x=>a.pv x.1 :: b.pvl x.2
 | _,_=>[]
def Ty.plain:Ty->Bool
 | .fn=>false
 | .pair a b=>a.plain&&b.plain
 | .list e=>e.plain
 | .arr _ e=>e.plain
 | _=>true
def Ty.oR:Ty->Bool
 | .pair _ _=>true
 | .arr _ _=>true
 | .unit=>true
 | _=>false
def qH (a b:IntKind):Option (PLift (a=b)) :=
 match a,b with
 | .i8,.i8=>some ⟨rfl⟩ | .i16,.i16=>some ⟨rfl⟩ | .i32,.i32=>some ⟨rfl⟩ | .i64,.i64=>some ⟨rfl⟩
 | .u8,.u8=>some ⟨rfl⟩ | .u16,.u16=>some ⟨rfl⟩ | .u32,.u32=>some ⟨rfl⟩ | .u64,.u64=>some ⟨rfl⟩
 | _,_=>none
def jE:(a b:Ty)->Option (PLift (a=b))
 | .int k,.int k'=>match qH k k' with
  | some h=>some ⟨congrArg Ty.int h.down⟩
  | none=>none
 | .bool,.bool=>some ⟨rfl⟩
 | .str,.str=>some ⟨rfl⟩
 | .fn,.fn=>some ⟨rfl⟩
 | .unit,.unit=>some ⟨rfl⟩
 | .list e,.list e'=>match jE e e' with
  | some h=>some ⟨congrArg Ty.list h.down⟩
  | none=>none
 | .arr n e,.arr n' e'=>match Nat.decEq n n',jE e e' with
  | .isTrue h,some h'=>some ⟨by rw [h,h'.down]⟩
  | _,_=>none
 | .pair a b,.pair a' b'=>match jE a a',jE b b' with
  | some h,some h'=>some ⟨by rw [h.down,h'.down]⟩
  | _,_=>none
 | _,_=>none
def fC {a:Ty} (b:Ty) (x:a.den):Option b.den:=match jE a b with
 | some h=>some (h.down ▸ x)
 | none=>none
inductive fj where
 | v (t:Ty) (x:t.den)
 | own (k:Nat)
 | hole
def fj.sz:fj->Nat
 | .v t _=>t.sz
 | _=>1
def fj.enc:fj->List CV
 | .v t x=>t.enc x
 | .own k=>[.own k]
 | .hole=>[.any]
def pN:List fj->Nat
 | []=>0
 | f :: l=>f.sz+pN l
def dP:List fj->List CV
 | []=>[]
 | f :: l=>f.enc++dP l
inductive df where
 | v (t:Ty) (x:t.den)
 | tup (t:Ty) (x:t.den)
 | nilS
 | undef
 | any
 | own (k:Nat)
 | po (k off:Nat) (p:List Nat)
 | pe (k i sz off:Nat) (p:List Nat)
 | pr (t:Ty) (x:t.den)
 | st (fs:List fj)
 | pa (k off:Nat) (p:List Nat) (n:Nat) (i:Int) (sz:Nat)
 | wn (k n:Nat)
 | mp (l:List (ByteArray×Int))
def df.pv:df->Option PV
 | .v t x=>some (t.pv x)
 | .tup t x=>some (.tup (t.pvl x))
 | .nilS=>some (.cv (.row 0 []))
 | .undef=>some (.cv (.lit Go.undef))
 | .any=>none
 | .own k=>some (.own k)
 | .po k off _=>some (.po k off)
 | .pe k i sz off _=>some (.po k (i*sz+off))
 | .pr t x=>some (.pr (t.enc x))
 | .st fs=>some (.ag (dP fs))
 | .pa k off _ n i sz=>some (.po k (off+i.toNat % n*sz))
 | .wn k n=>some (.win k 0 n)
 | .mp l=>some (.map l)
def Ty.rn:Ty->Nat
 | .arr n _=>n
 | _=>1
def Ty.rsz:Ty->Nat
 | .arr _ e=>e.sz
 | t=>t.sz
def eN {α:Type} (z:α):Nat->List α->List α
 | 0,_=>[]
 | n+1,[]=>z :: eN z n []
 | n+1,a :: l=>a :: eN z n l
def uI {α:Type} (z:α) (n:Nat) (l:List α) (i:Int):α:=l.getD (i.toNat % n) z
def C7 {α:Type} (z u:α):List α->Nat->List α
 | [],0=>[u]
 | [],i+1=>z :: C7 z u [] i
 | _ :: l,0=>u :: l
 | a :: l,i+1=>a :: C7 z u l i
def Nn {α:Type} (z:α) (n:Nat) (l:List α) (i:Int) (u:α):List α:=C7 z u l (i.toNat % n)
inductive bZ where
 | arr (e:TypeId) (t:Ty) (l:List t.den)
 | box (e:TypeId) (t:Ty) (x:t.den)
 | obox (e:TypeId) (fs:List fj)
def bZ.row:bZ->Row
 | .arr e t l=>⟨e,t.sz,l.length,l.flatMap t.enc⟩
 | .box e t x=>⟨e,t.rsz,t.rn,t.enc x⟩
 | .obox e fs=>⟨e,pN fs,1,dP fs⟩
structure ES where
 env:List (Nat×df)
 rows:List (Nat×bZ)
def find {α:Type}:List (Nat×α)->Nat->Option α
 | [],_=>none
 | x :: l,t=>match Nat.beq t x.1 with
  | true=>some x.2
  | false=>find l t
def mem:List Nat->Nat->Bool
 | [],_=>false
 | x :: l,t=>match Nat.beq t x with
  | true=>true
  | false=>mem l t
def ES.st (S:ES):V.St:=⟨fun t=>(find S.env t).bind df.pv,fun k=>(find S.rows k).map bZ.row⟩
def ES.put (S:ES) (d:Nat) (v:df):ES:=⟨(d,v) :: S.env,S.rows⟩
def ES.set (S:ES) (k:Nat) (r:bZ):ES:=⟨S.env,(k,r) :: S.rows⟩
structure Kk where
 p:Prop
 d:Decidable p
structure Hk where
 t:Ty
 x:Option t.den
 f:t.den->ES
structure gU where
 P:Program
 ty:List (Nat×Ty)
 el:List (Nat×Nat)
 ar:List (Nat×(Nat×Nat)):=[]
 by_:List (Nat×Nat)
 par:List (Nat×List Ty)
 out_:List (Nat×(Bool×Ty))
 lent_:List (Nat×(Nat×TypeId))
 given_:List (Nat×(Nat×TypeId)):=[]
 mp_:List Nat:=[]
 own:List (Nat×List Nat)
 live:List (Nat×List (Nat×List (Nat×Bool×TypeId)))
 hook:List Oper->Bool->ES->Option Hk:=fun _ _ _=>none
def gU.out (T:gU) (f:Nat):Ty:=match find T.out_ f with
 | some x=>x.2
 | none=>.unit
def gU.cV (T:gU) (f:Nat):Bool:=match find T.out_ f with
 | some x=>x.1
 | none=>true
def cH {t:Ty} (l:List t.den) (i:Int):t.den:=l.getD i.toNat t.zero
def rV:(t:Ty)->List Nat->t.den->Option df
 | t,[],x=>some (.v t x)
 | .pair a b,n :: p,x=>match n with
  | 0=>rV a p x.1
  | n+1=>rV b (n :: p) x.2
 | _,_,_=>none
def uE:(t:Ty)->List Nat->t.den->(c:Ty)->c.den->Option t.den
 | t,[],x,c,y=>fC t y
 | .pair a b,n :: p,x,c,y=>match n with
  | 0=>match uE a p x.1 c y with
   | some z=>some (z,x.2)
   | none=>none
  | n+1=>match uE b (n :: p) x.2 c y with
   | some z=>some (x.1,z)
   | none=>none
 | _,_,_,_,_=>none
def l6:Ty->List Nat->Option (Nat×Ty)
 | t,[]=>some (0,t)
 | .pair a b,n :: p=>match n with
  | 0=>l6 a p
  | n+1=>match l6 b (n :: p) with
   | some x=>some (a.sz+x.1,x.2)
   | none=>none
 | _,_=>none
def BW:Value->df
 | .int k n=>.v (.int k) n
 | .bool b=>.v .bool b
 | .string s=>.v .str s
 | .slice none 0 0=>.nilS
 | _=>.any
def gA (rd:Nat->Option df):Operand->Option df
 | .tmp t=>rd t
 | .const v=>some (BW v)
 | .func f=>some (.v .fn f)
 | .global _=>none
def coe (t:Ty):df->Option t.den
 | .v c x=>fC t x
 | .nilS=>match t with
  | .list e=>some ([]:List e.den)
  | _=>none
 | _=>none
def iP:(t:Ty)->t.den->Option (List fj)
 | .unit,_=>some []
 | .pair a b,x=>match iP b x.2 with
  | some l=>some (.v a x.1 :: l)
  | none=>none
 | _,_=>none
def DJ:(t:Ty)->List fj->Option t.den
 | .unit,[]=>some ()
 | .pair a b,.v c x :: l=>match fC (a:=c) a x,DJ b l with
  | some y,some z=>some (y,z)
  | _,_=>none
 | _,_=>none
def iX:List fj->List Nat
 | []=>[]
 | .own k :: l=>k :: iX l
 | _ :: l=>iX l
def nZ:List fj->Nat->Option (Nat×fj)
 | [],_=>none
 | f :: l,i=>match i with
  | 0=>some (0,f)
  | i+1=>match nZ l i with
   | some x=>some (f.sz+x.1,x.2)
   | none=>none
def gP:List fj->Nat->fj->List fj
 | [],_,_=>[]
 | f :: l,i,g=>match i with
  | 0=>g :: l
  | i+1=>f :: gP l i g
def getF (fs:List fj):List Nat->Option (Nat×df)
 | []=>none
 | i :: p=>match nZ fs i with
  | some (o,.v t x)=>match l6 t p,rV t p x with
   | some (o',_),some v=>some (o+o',v)
   | _,_=>none
  | some (o,.own k)=>match p with
   | []=>some (o,.own k)
   | _=>none
  | _=>none
open Go.Proofs.YtfbgaddecbiimaaGreatDoorW.PrintMore
structure E6 where
 c:Option Kk
 v:df
 r:Option (Nat×bZ)
def bV (v:df):Option E6:=some ⟨none,v,none⟩
def yieldsIf (p:Prop) [d:Decidable p] (v:df):Option E6:=some ⟨some ⟨p,d⟩,v,none⟩
def wr:IntKind->Int->Int
 | .i64,n=>wrap64 n
 | .u32,n=>n % 4294967296
 | .u8,n=>n % 256
 | k,n=>k.wrap n
def sure:Operand->Bool
 | .const (.int _ n)=>match n with
  | .ofNat (_+1)=>true
  | _=>false
 | _=>false
def MG (op:BinOp) (k:IntKind) (a b:Int) (s:Bool):Option E6 :=
 match op with
 | .add=>bV (.v (.int k) (wr k (a+b)))
 | .sub=>bV (.v (.int k) (wr k (a-b)))
 | .mul=>bV (.v (.int k) (wr k (a*b)))
 | .quo=>match s with
  | true=>bV (.v (.int k) (wr k (a.tdiv b)))
  | false=>yieldsIf (¬ b=0) (.v (.int k) (wr k (a.tdiv b)))
 | .rem=>match s with
  | true=>bV (.v (.int k) (a.tmod b))
  | false=>yieldsIf (¬ b=0) (.v (.int k) (a.tmod b))
 | .eql=>bV (.v .bool (a==b))
 | .neq=>bV (.v .bool (a != b))
 | .lss=>bV (.v .bool (decide (a<b)))
 | .leq=>bV (.v .bool (decide (a<=b)))
 | .gtr=>bV (.v .bool (decide (a>b)))
 | .geq=>bV (.v .bool (decide (a>=b)))
 | .shl=>match s with
  | true=>bV (.v (.int k) (shl k a b))
  | false=>yieldsIf (0<=b) (.v (.int k) (shl k a b))
 | .shr=>match s with
  | true=>bV (.v (.int k) (shr k a b))
  | false=>yieldsIf (0<=b) (.v (.int k) (shr k a b))
 | .and=>bV (.v (.int k) (bits .and k a b))
 | .or=>bV (.v (.int k) (bits .or k a b))
 | .xor=>bV (.v (.int k) (bits .xor k a b))
 | .andNot=>bV (.v (.int k) (bits .andNot k a b))
def binB (op:BinOp) (a b:Bool):Option E6 :=
 match op with
 | .eql=>bV (.v .bool (a==b))
 | .neq=>bV (.v .bool (a != b))
 | _=>none
def binS (op:BinOp) (a b:ByteArray):Option E6 :=
 match op with
 | .eql=>bV (.v .bool (a.toList==b.toList))
 | .neq=>bV (.v .bool (!(a.toList==b.toList)))
 | .add=>yieldsIf (a.size+b.size<=9223372036854775807) (.v .str (a++b))
 | _=>none
def vz (rd:Nat->Option df) (t:Ty):List (Nat×Operand)->t.den->Option t.den
 | [],x=>some x
 | (i,y) :: l,x=>match gA rd y,l6 t [i] with
  | some v,some (_,c)=>match coe c v with
   | some z=>match uE t [i] x c z with
    | some x'=>vz rd t l x'
    | none=>none
   | none=>none
  | _,_=>none
def vA (rd:Nat->Option df) (t:Ty):Nat->List (Nat×Operand)->Option (List t.den)
 | _,[]=>some []
 | n,(i,y) :: l=>match Nat.beq n i,gA rd y with
  | true,some v=>match coe t v,vA rd t (n+1) l with
   | some x,some xs=>some (x :: xs)
   | _,_=>none
  | _,_=>none
def intOf (rd:Nat->Option df) (x:Operand):Option Int:=match gA rd x with
 | some (.v (.int _) n)=>some n
 | _=>none
def BQ (T:gU) (t:TypeId):Option (TypeId×Ty):=match find T.el t,find T.ty t with
 | some e,some (.list c)=>some (e,c)
 | _,_=>none
def gO (c:Ty):Bool:=c.plain&&Nat.ble 1 c.sz
def sO (T:gU) (F:Nat) (o:Oper):Operand->Option (Nat×TypeId×Ty)
 | .const (.slice none 0 0)=>match o.dst with
  | some d=>match mem ((find T.own F).getD []) d,BQ T o.type with
   | true,some (e,c)=>some (d,e,c)
   | _,_=>none
  | none=>none
 | _=>none
def NW (T:gU) (F:Nat) (o:Oper):Bool:=match o.dst with
 | some d=>mem ((find T.own F).getD []) (d+3000000000)
 | none=>false
def step (T:gU) (F:Nat) (rd:Nat->Option df) (rr:Nat->Option (Option bZ)) (o:Oper):Option E6 :=
 match o.op with
 | .move x=>match sO T F o x with
  | some (d,e,c)=>match rr d with
   | some none=>some ⟨none,.own d,some (d,.arr e c [])⟩
   | _=>none
  | none=>match gA rd x with
   | some .any=>none
   | some v=>bV v
   | none=>none
 | .assign x=>match sO T F o x with
  | some (d,e,c)=>match rr d with
   | some none=>some ⟨none,.own d,some (d,.arr e c [])⟩
   | _=>none
  | none=>match gA rd x,NW T F o with
   | some .any,_=>none
   | some (.v (.list _) _),true=>none
   | some v,_=>bV v
   | none,_=>none
 | .alloc t=>match o.dst,find T.ty t with
  | some d,some c=>match gO c,rr d with
   | true,some none=>some ⟨none,.po d 0 [],some (d,.box t c c.zero)⟩
   | _,_=>none
  | _,_=>none
 | .box t x=>match o.dst,find T.ty t,gA rd x with
  | some d,some c,some v=>match coe c v,rr d,gO c with
   | some y,some none,true=>some ⟨none,.po d 0 [],some (d,.box t c y)⟩
   | _,_,_=>none
  | _,_,_=>none
 | .build t ps=>match find T.ty t with
  | some (.pair a b)=>match (Ty.pair a b).plain with
   | true=>match vz rd (.pair a b) ps.toList (Ty.pair a b).zero with
    | some x=>bV (.v (.pair a b) x)
    | none=>none
   | false=>none
  | _=>none
 | .buildSlice t n ps=>match BQ T t,o.dst with
  | some (e,c),some d=>match Nat.beq n ps.toList.length,vA rd c 0 ps.toList,gO c&&Nat.ble (n*c.sz) 16777216 with
   | true,some l,true=>match mem ((find T.own F).getD []) d with
    | false=>bV (.v (.list c) l)
    | true=>match rr d with
     | some none=>some ⟨none,.own d,some (d,.arr e c l)⟩
     | _=>none
   | _,_,_=>none
  | _,_=>none
 | .load t x=>match find T.ty t,gA rd x with
  | some c,some (.pr c' y)=>match fC c y with
   | some z=>bV (.v c z)
   | none=>none
  | some c,some (.po k off p)=>match rr k with
   | some (some (.box e b y))=>match l6 b p,rV b p y with
    | some (off',_),some (.v c' z)=>match Nat.beq off off',fC c z with
     | true,some u=>bV (.v c u)
     | _,_=>none
    | _,_=>none
   | _=>none
  | some c,some (.pe k i sz off p)=>match rr k with
   | some (some (.arr e b l))=>match l6 b p,rV b p (l.getD i b.zero) with
    | some (off',_),some (.v c' z)=>match Nat.beq off off',Nat.beq sz b.sz,fC c z with
     | true,true,some u=>bV (.v c u)
     | _,_,_=>none
    | _,_=>none
   | _=>none
  | _,_=>none
 | .store t x y=>match o.dst,find T.ty t,gA rd x,gA rd y with
  | none,some c,some (.po k off p),some v=>match rr k,coe c v with
   | some (some (.box e b z)),some u=>match l6 b p,uE b p z c u with
    | some (off',_),some z'=>match Nat.beq off off' with
     | true=>some ⟨none,.any,some (k,.box e b z')⟩
     | false=>none
    | _,_=>none
   | _,_=>none
  | none,some c,some (.pe k i sz off p),some v=>match rr k,coe c v with
   | some (some (.arr e b l)),some u=>match l6 b p,uE b p (l.getD i b.zero) c u with
    | some (off',_),some z'=>match Nat.beq off off',Nat.beq sz b.sz with
     | true,true=>some ⟨none,.any,some (k,.arr e b (l.set i z'))⟩
     | _,_=>none
    | _,_=>none
   | _,_=>none
  | _,_,_,_=>none
 | .nilCheck x=>match gA rd x with
  | some (.po k off p)=>bV (.po k off p)
  | some (.pe k i sz off p)=>bV (.pe k i sz off p)
  | some (.pr c y)=>bV (.pr c y)
  | _=>none
 | .binOp op t x y t'=>match gA rd x,gA rd y with
  | some (.v (.int k) a),some (.v (.int k') b)=>match qH k k',op with
   | some _,op=>MG op k a b (sure y)
   | none,.shl=>MG .shl k a b (sure y)
   | none,.shr=>MG .shr k a b (sure y)
   | _,_=>none
  | some (.v .bool a),some (.v .bool b)=>match find T.ty t with
   | some .bool=>binB op a b
   | _=>none
  | some (.v .str a),some (.v .str b)=>binS op a b
  | _,_=>none
 | .unOp op t x=>match op,gA rd x with
  | .not,some (.v .bool b)=>bV (.v .bool (!b))
  | .neg,some (.v (.int k) n)=>bV (.v (.int k) (wr k (-n)))
  | _,_=>none
 | .convert s d x=>match find T.ty d,gA rd x with
  | some (.int k),some (.v (.int _) n)=>match find T.ty s with
   | some _=>bV (.v (.int k) (wr k n))
   | none=>none
  | some .str,some (.v (.list (.int .u8)) l)=>match BQ T s with
   | some (_,.int .u8)=>bV (.v .str (strOfNums l))
   | _=>none
  | _,_=>none
 | .makeSlice t x y=>match BQ T t,o.dst,intOf rd x,intOf rd y with
  | some (e,c),some d,some n,some m=>match find T.by_ e,gO c,mem ((find T.own F).getD []) d with
   | some b,true,true=>match rr d with
    | some none=>some ⟨some ⟨0<=n/\n<=m/\b*m.toNat<=281474976710656/\m.toNat<=maxLen,inferInstance⟩,.own d,some (d,.arr e c (List.replicate n.toNat c.zero))⟩
    | _=>none
   | some b,true,false=>some ⟨some ⟨0<=n/\n<=m/\b*m.toNat<=281474976710656/\m.toNat<=maxLen,inferInstance⟩,.v (.list c) (List.replicate n.toNat c.zero),none⟩
   | _,_,_=>none
  | _,_,_,_=>none
 | .slice t x lo hi none=>match gA rd x with
  | some (.v .str s)=>match find T.ty t,lo,hi with
   | some .str,some lo,some hi=>match intOf rd lo,intOf rd hi with
    | some i,some j=>yieldsIf (0<=i/\i<=j/\j<=(s.size:Int)) (.v .str (s.extract i.toNat j.toNat))
    | _,_=>none
   | some .str,none,some hi=>match intOf rd hi with
    | some j=>yieldsIf (0<=j/\j<=(s.size:Int)) (.v .str (s.extract 0 j.toNat))
    | _=>none
   | some .str,some lo,none=>match intOf rd lo with
    | some i=>yieldsIf (0<=i/\i<=(s.size:Int)) (.v .str (s.extract i.toNat s.size))
    | _=>none
   | _,_,_=>none
  | some v=>match BQ T t with
   | some (e,c)=>match coe (.list c) v with
    | some l=>match lo,hi with
     | some lo,some hi=>match intOf rd lo,intOf rd hi with
      | some i,some j=>yieldsIf (0<=i/\i<=j/\j<=(l.length:Int)) (.v (.list c) ((l.take j.toNat).drop i.toNat))
      | _,_=>none
     | none,some hi=>match intOf rd hi with
      | some j=>yieldsIf (0<=j/\j<=(l.length:Int)) (.v (.list c) (l.take j.toNat))
      | _=>none
     | some lo,none=>match intOf rd lo with
      | some i=>yieldsIf (0<=i/\i<=(l.length:Int)) (.v (.list c) (l.drop i.toNat))
      | _=>none
     | none,none=>bV (.v (.list c) l)
    | none=>none
   | none=>none
  | none=>none
 | .fieldAddr t x i=>match find T.ty t,gA rd x with
  | some c,some (.po k off p)=>match l6 c [i],rr k with
   | some (fo,d),some (some (.box e b y))=>match l6 b p with
    | some (off',c')=>match Nat.beq off off',jE c c',Nat.beq d.sz 0 with
     | true,some _,false=>bV (.po k (off+fo) (p++[i]))
     | _,_,_=>none
    | none=>none
   | _,_=>none
  | some c,some (.pe k j sz off p)=>match l6 c [i],rr k with
   | some (fo,d),some (some (.arr e b l))=>match l6 b p with
    | some (off',c')=>match Nat.beq off off',jE c c',Nat.beq sz b.sz,Nat.beq d.sz 0 with
     | true,some _,true,false=>bV (.pe k j sz (off+fo) (p++[i]))
     | _,_,_,_=>none
    | none=>none
   | _,_=>none
  | some c,some (.pr c' y)=>match jE c c',l6 c' [i],rV c' [i] y with
   | some _,some (_,d'),some (.v d z)=>match Nat.beq d'.sz 0 with
    | false=>bV (.pr d z)
    | true=>none
   | _,_,_=>none
  | _,_=>none
 | .field t x i=>match find T.ty t,gA rd x with
  | some c,some v=>match coe c v with
   | some y=>match l6 c [i],rV c [i] y with
    | some (_,d),some (.v d' z)=>match jE d d' with
     | some _=>bV (.v d' z)
     | none=>none
    | _,_=>none
   | none=>none
  | _,_=>none
 | .indexAddr t x y=>match BQ T t,gA rd x,intOf rd y with
  | some (e,c),some (.own k),some i=>match rr k with
   | some (some (.arr e' c' l))=>match jE c c',gO c with
    | some _,true=>yieldsIf (0<=i/\i<(l.length:Int)) (.pe k i.toNat c.sz 0 [])
    | _,_=>none
   | _=>none
  | some (e,c),some v,some i=>match coe (.list c) v with
   | some l=>yieldsIf (0<=i/\i<(l.length:Int)) (.pr c (cH l i))
   | none=>none
  | _,_,_=>none
 | .index t x y=>match find T.ty t,gA rd x,intOf rd y with
  | some .str,some (.v .str s),some i=>yieldsIf (0<=i/\i<(s.size:Int)) (.v (.int .u8) (bt s i))
  | _,_,_=>none
 | .extract x i=>match gA rd x with
  | some (.tup t y)=>match rV t [i] y with
   | some (.v c z)=>bV (.v c z)
   | _=>none
  | _=>none
 | .call c=>match c.callee with
  | .builtin .len=>match c.args.toList,c.argTypes.toList with
   | [x],[t]=>match find T.ty t,gA rd x with
    | some (.list _),some (.v (.list c) l)=>bV (.v (.int .i64) (l.length:Int))
    | some (.list _),some .nilS=>bV (.v (.int .i64) 0)
    | some (.list _),some (.own k)=>match rr k with
     | some (some (.arr e c l))=>bV (.v (.int .i64) (l.length:Int))
     | _=>none
    | some .str,some (.v .str s)=>bV (.v (.int .i64) (s.size:Int))
    | _,_=>none
   | _,_=>none
  | .builtin .append=>match c.args.toList,c.argTypes.toList with
   | [.const (.slice none 0 0),y],[t,t']=>match BQ T t,gA rd y,Nat.beq t t' with
    | some (e,q),some v,true=>match find T.by_ e,coe (.list q) v,gO q with
     | some b,some m,true=>yieldsIf (m.length*b<=140737488355328) (.v (.list q) m)
     | _,_,_=>none
    | _,_,_=>none
   | _,_=>none
  | .builtin .max=>match c.args.toList with
   | [x,y]=>match gA rd x,gA rd y with
    | some (.v (.int k) a),some (.v (.int k') b)=>match qH k k' with
     | some _=>bV (.v (.int k) (mx a b))
     | none=>none
    | _,_=>none
   | _=>none
  | .builtin .min=>match c.args.toList with
   | [x,y]=>match gA rd x,gA rd y with
    | some (.v (.int k) a),some (.v (.int k') b)=>match qH k k' with
     | some _=>bV (.v (.int k) (mn a b))
     | none=>none
    | _,_=>none
   | _=>none
  | _=>none
 | _=>none
def fldO (c:Ty):df->Option fj
 | .own k=>match c with
  | .list _=>some (.own k)
  | _=>none
 | v=>match coe c v with
  | some z=>some (.v c z)
  | none=>none
def l5 (rd:Nat->Option df):List (Nat×Operand)->List fj->Option (List fj)
 | [],fs=>some fs
 | (i,y) :: l,fs=>match gA rd y,nZ fs i with
  | some v,some (_,.v c _)=>match fldO c v with
   | some g=>l5 rd l (gP fs i g)
   | none=>none
  | _,_=>none
def Ik (own:List Nat) (d:Nat):Nat->Nat->Option Nat
 | 0,_=>none
 | n+1,i=>match mem own (d+(i+2)*opened) with
  | true=>some i
  | false=>Ik own d n (i+1)
def qn (i:Nat):List (Nat×Operand)->Bool
 | []=>true
 | x :: l=>match Nat.beq x.1 i with
  | true=>false
  | false=>qn i l
def fldsV (c:Ty):df->Option (List fj)
 | .st fs=>some fs
 | v=>match coe c v with
  | some u=>iP c u
  | none=>none
def fldE (T:gU) (t:TypeId) (i:Nat):TypeId:=match T.P.underlying t with
 | some (.struct fs)=>match fs.toList[i]? with
  | some f=>(find T.el f.type).getD 0
  | none=>0
 | _=>0
def pn (T:gU) (F:Nat) (rd:Nat->Option df) (rr:Nat->Option (Option bZ)) (o:Oper):Option E6 :=
 match o.op with
 | .alloc t=>match o.dst,find T.ty t with
  | some d,some c=>match mem ((find T.own F).getD []) (d+opened),gO c,iP c c.zero,rr (d+opened) with
   | true,true,some fs,some none=>some ⟨none,.po (d+opened) 0 [],some (d+opened,.obox t fs)⟩
   | _,_,_,_=>none
  | _,_=>none
 | .build t ps=>match o.dst,find T.ty t with
  | some d,some c=>match mem ((find T.own F).getD []) d,c.plain,iP c c.zero with
   | true,true,some fs=>match l5 rd ps.toList fs with
    | some fs'=>match Ik ((find T.own F).getD []) d fs.length 0 with
     | none=>bV (.st fs')
     | some i=>match nZ fs i,qn i ps.toList,rr d with
      | some (_,.v (.list q) _),true,some none=>some ⟨none,.st (gP fs' i (.own d)),some (d,.arr (fldE T t i) q [])⟩
      | _,_,_=>none
    | none=>none
   | _,_,_=>none
  | _,_=>none
 | .load t x=>match find T.ty t,gA rd x with
  | some c,some (.po k off p)=>match rr k with
   | some (some (.obox e fs))=>match p with
    | []=>match DJ c fs,Nat.beq off 0 with
     | some y,true=>bV (.v c y)
     | _,_=>none
    | _ :: _=>match getF fs p with
     | some (off',.v c' z)=>match Nat.beq off off',fC c z with
      | true,some u=>bV (.v c u)
      | _,_=>none
     | some (off',.own j)=>match Nat.beq off off',c with
      | true,.list _=>bV (.own j)
      | _,_=>none
     | _=>none
   | _=>none
  | _,_=>none
 | .store t x y=>match o.dst,find T.ty t,gA rd x,gA rd y with
  | none,some c,some (.po k off p),some v=>match rr k,Nat.ble opened k with
   | some (some (.obox e fs)),true=>match p with
    | []=>match fldsV c v with
     | some fs'=>match Nat.beq off 0&&Nat.beq (pN fs') (pN fs)&&Nat.beq c.sz (pN fs')&&c.oR with
      | true=>some ⟨none,.any,some (k,.obox e fs')⟩
      | false=>none
     | none=>none
    | i :: p'=>match nZ fs i with
     | some (o1,f)=>match p' with
      | []=>match fldO c v with
       | some g=>match Nat.beq off o1&&Nat.beq f.sz c.sz with
        | true=>some ⟨none,.any,some (k,.obox e (gP fs i g))⟩
        | false=>none
       | none=>none
      | _ :: _=>match f,coe c v with
       | .v ft z,some u=>match l6 ft p',uE ft p' z c u with
        | some (o2,_),some z'=>match Nat.beq off (o1+o2) with
         | true=>some ⟨none,.any,some (k,.obox e (gP fs i (.v ft z')))⟩
         | false=>none
        | _,_=>none
       | _,_=>none
     | none=>none
   | _,_=>none
  | _,_,_,_=>none
 | .buildSlice t n ps=>match o.dst,BQ T t,ps.toList with
  | some d,some (e,c),[(0,x)]=>match mem ((find T.own F).getD []) (d+opened),gA rd x,rr (d+opened) with
   | true,some (.st fs),some none=>match Nat.beq n 1,Nat.beq (pN fs) c.sz&&Nat.ble (pN fs) 1000,gO c with
    | true,true,true=>some ⟨none,.own (d+opened),some (d+opened,.obox e fs)⟩
    | _,_,_=>none
   | _,_,_=>none
  | _,_,_=>none
 | .fieldAddr t x i=>match find T.ty t,gA rd x with
  | some c,some (.po k off p)=>match rr k,l6 c [i] with
   | some (some (.obox e fs)),some (fo,d)=>match p with
    | []=>match Nat.beq off 0&&Nat.beq c.sz (pN fs)&&Nat.blt 0 d.sz with
     | true=>bV (.po k (off+fo) [i])
     | false=>none
    | j :: p'=>match nZ fs j with
     | some (o1,.v ft _)=>match l6 ft p' with
      | some (o2,c')=>match Nat.beq off (o1+o2)&&Nat.blt 0 d.sz,jE c c' with
       | true,some _=>bV (.po k (off+fo) (j :: p'++[i]))
       | _,_=>none
      | none=>none
     | _=>none
   | _,_=>none
  | _,_=>none
 | _=>none
def arc (T:gU) (t:TypeId):Option (TypeId×Nat×Ty):=match find T.ar t,find T.ty t with
 | some (_,e),some (.arr n c)=>some (e,n,c)
 | _,_=>none
def qE (l:List (ByteArray×Int)) (k:ByteArray):Int×Bool×Unit:=match V.lD l k with
 | some x=>(x.2,true,())
 | none=>(0,false,())
def N7 (T:gU) (t:TypeId):Bool:=mem T.mp_ t
def iv (T:gU) (F:Nat) (rd:Nat->Option df) (rr:Nat->Option (Option bZ)) (o:Oper):Option E6 :=
 match o.op with
 | .indexAddr t x y=>match arc T t,gA rd x,intOf rd y with
  | some (e,n,c),some (.po k off p),some i=>match rr k with
   | some (some (.box _ b _))=>match l6 b p with
    | some (off',c')=>match Nat.beq off off',jE c' (.arr n c),Nat.blt 0 n&&Nat.blt 0 c.sz with
     | true,some _,true=>yieldsIf (0<=i/\i<(n:Int)) (.pa k off p n i c.sz)
     | _,_,_=>none
    | none=>none
   | _=>none
  | some (e,n,c),some (.pr c' l),some i=>match fC (.arr n c) l,Nat.blt 0 n with
   | some l,true=>yieldsIf (0<=i/\i<(n:Int)) (.pr c (uI c.zero n l i))
   | _,_=>none
  | _,_,_=>none
 | .load t x=>match find T.ty t,gA rd x with
  | some c,some (.pa k off p n i sz)=>match rr k with
   | some (some (.box _ b y))=>match l6 b p,rV b p y with
    | some (off',.arr n' c'),some (.v ca l)=>match Nat.beq off off'&&Nat.beq n n'&&Nat.beq sz c'.sz&&Nat.blt 0 n,fC (.arr n' c') l,jE c' c with
     | true,some l,some h=>bV (.v c (h.down ▸ uI c'.zero n l i))
     | _,_,_=>none
    | _,_=>none
   | _=>none
  | _,_=>none
 | .store t x y=>match o.dst,find T.ty t,gA rd x,gA rd y with
  | none,some c,some (.pa k off p n i sz),some v=>match rr k,coe c v with
   | some (some (.box e b y)),some u=>match l6 b p,rV b p y with
    | some (off',.arr n' c'),some (.v ca l)=>match Nat.beq off off'&&Nat.beq n n'&&Nat.beq sz c'.sz&&Nat.blt 0 n,fC (.arr n' c') l,fC (a:=c) c' u with
     | true,some l,some u=>match uE b p y (.arr n' c') (Nn c'.zero n l i u) with
      | some y'=>some ⟨none,.any,some (k,.box e b y')⟩
      | none=>none
     | _,_,_=>none
    | _,_=>none
   | _,_=>none
  | _,_,_,_=>none
 | .index t x y=>match arc T t,gA rd x,intOf rd y with
  | some (e,n,c),some v,some i=>match coe (.arr n c) v,Nat.blt 0 n,c.oR with
   | some l,true,false=>yieldsIf (0<=i/\i<(n:Int)) (.v c (uI c.zero n l i))
   | _,_,_=>none
  | _,_,_=>none
 | .slice t x lo hi none=>match arc T t,gA rd x with
  | some (e,n,c),some (.pr c' l)=>match fC (.arr n c) l,lo,hi with
   | some l,none,some hi=>match intOf rd hi with
    | some j=>yieldsIf (0<=j/\j<=(n:Int)) (.v (.list c) ((eN c.zero n l).take j.toNat))
    | none=>none
   | some l,none,none=>bV (.v (.list c) (eN c.zero n l))
   | _,_,_=>none
  | some (e,n,c),some (.po k 0 [])=>match rr k,lo,hi with
   | some (some (.box _ b _)),none,none=>match jE b (.arr n c),Nat.blt 0 n with
    | some _,true=>bV (.wn k n)
    | _,_=>none
   | _,_,_=>none
  | _,_=>none
 | .binOp op t x y t'=>match arc T t,gA rd x,gA rd y with
  | some (e,n,.int q),some v,some v'=>match coe (.arr n (.int q)) v,coe (.arr n (.int q)) v',T.P.eqGuardType T.P.depth t with
   | some l,some m,false=>match op with
    | .eql=>bV (.v .bool (eN (0:Int) n l==eN (0:Int) n m))
    | .neq=>bV (.v .bool (!(eN (0:Int) n l==eN (0:Int) n m)))
    | _=>none
   | _,_,_=>none
  | _,_,_=>none
 | .call c=>match c.callee with
  | .builtin .copy=>match c.args.toList,c.argTypes.toList with
   | [x,y],[t,t']=>match gA rd x,gA rd y,BQ T t with
    | some (.wn k n),some vy,some (e,.int q)=>match rr k,coe (.list (.int q)) vy with
     | some (some (.box e' b l)),some m=>match fC (a:=b) (.arr n (.int q)) l,Nat.blt 0 n with
      | some l,true=>some ⟨some ⟨l.length=n,inferInstance⟩,.v (.int .i64) (wx l m),some (k,.box e' (.arr n (.int q)) (kN l m))⟩
      | _,_=>none
     | _,_=>none
    | _,_,_=>none
   | _,_=>none
  | _=>none
 | .build t ps=>match arc T t,ps.toList with
  | some (e,n,c),[]=>match (Ty.arr n c).plain with
   | true=>bV (.v (.arr n c) (Ty.arr n c).zero)
   | false=>none
  | _,_=>none
 | .makeMap t none=>match N7 T t with
  | true=>bV (.mp [])
  | false=>none
 | .lookup t x y true=>match N7 T t,gA rd x,gA rd y with
  | true,some (.mp l),some (.v .str k)=>bV (.tup (.pair (.int .i64) (.pair .bool .unit)) (qE l k))
  | _,_,_=>none
 | _=>none
def G3 (k:Nat) (t:Ty) (l:List t.den):fj->fj
 | .own j=>match Nat.beq j k with
  | true=>.v (.list t) l
  | false=>.own j
 | f=>f
def lT (k:Nat):fj->fj
 | .own j=>match Nat.beq j k with
  | true=>.hole
  | false=>.own j
 | f=>f
def ub (g:fj->fj):List fj->List fj
 | []=>[]
 | f :: l=>g f :: ub g l
def qx (g:fj->fj) (j:Nat):bZ->bZ
 | .obox e fs=>match Nat.ble opened j with
  | true=>.obox e (ub g fs)
  | false=>.obox e fs
 | r=>r
def sQ (g:fj->fj):List (Nat×bZ)->List (Nat×bZ)
 | []=>[]
 | x :: l=>(x.1,qx g x.1 x.2) :: sQ g l
def rW (k:Nat) (t:Ty) (l:List t.den):df->df
 | .own j=>match Nat.beq j k with
  | true=>.v (.list t) l
  | false=>.own j
 | .pe j i sz off p=>match Nat.beq j k with
  | true=>.any
  | false=>.pe j i sz off p
 | .po j off p=>match Nat.beq j k with
  | true=>.any
  | false=>.po j off p
 | .tup _ _=>.any
 | .st fs=>match mem (iX fs) k with
  | true=>.any
  | false=>.st fs
 | .pa j off p n i sz=>match Nat.beq j k with
  | true=>.any
  | false=>.pa j off p n i sz
 | .wn j n=>match Nat.beq j k with
  | true=>.any
  | false=>.wn j n
 | v=>v
def ia (k:Nat):df->df
 | .own j=>match Nat.beq j k with
  | true=>.any
  | false=>.own j
 | .pe j i sz off p=>match Nat.beq j k with
  | true=>.any
  | false=>.pe j i sz off p
 | .po j off p=>match Nat.beq j k with
  | true=>.any
  | false=>.po j off p
 | .tup _ _=>.any
 | .st fs=>match mem (iX fs) k with
  | true=>.any
  | false=>.st fs
 | .pa j off p n i sz=>match Nat.beq j k with
  | true=>.any
  | false=>.pa j off p n i sz
 | .wn j n=>match Nat.beq j k with
  | true=>.any
  | false=>.wn j n
 | v=>v
def H6:df->df
 | .mp _=>.any
 | .tup _ _=>.any
 | v=>v
def lV {α:Type} (k:Nat):List (Nat×α)->List (Nat×α)
 | []=>[]
 | x :: l=>match Nat.beq x.1 k with
  | true=>lV k l
  | false=>x :: lV k l
def rU {α:Type} (f:α->α):List (Nat×α)->List (Nat×α)
 | []=>[]
 | x :: l=>(x.1,f x.2) :: rU f l
def ES.frz (S:ES) (k:Nat):ES:=match find S.rows k with
 | some (.arr e t l)=>match Nat.beq k cd||Nat.ble opened k with
  | true=>S
  | false=>⟨rU (rW k t l) S.env,sQ (G3 k t l) (lV k S.rows)⟩
 | _=>S
def ES.gL (S:ES):List Nat->ES
 | []=>S
 | k :: l=>(S.frz k).gL l
def G5:Nat->List Operand->List Operand
 | _,[]=>[]
 | 0,_ :: l=>l
 | n+1,x :: l=>x :: G5 n l
def HK (m g:Nat):Nat:=match Nat.ble m g with
 | true=>g-m
 | false=>g
def real (g:Nat):Nat:=HK 1000000 g
def sF (own:List Nat):Operand->Operand
 | .func g=>match Nat.ble 1000000 g with
  | true=>.const (.bool false)
  | false=>match mem own (g+1000000000) with
   | true=>.func (g+1000000)
   | false=>.func g
 | x=>x
def kept (T:gU) (x:Operand) (l:List Operand):List Operand:=match x with
 | .func g=>match find T.lent_ g with
  | some (j,_)=>G5 j l
  | none=>match find T.given_ g with
   | some (j,_)=>G5 j l
   | none=>l
 | _=>l
def zU (S:ES):Operand->List Nat
 | .tmp t=>match find S.env t with
  | some (.own k)=>[k]
  | some (.st fs)=>iX fs
  | _=>[]
 | _=>[]
def mT (S:ES):List Operand->List Nat
 | []=>[]
 | x :: l=>zU S x++mT S l
def B8 (S:ES):Operand->List Nat
 | .tmp t=>match find S.env t with
  | some (.po k _ [])=>match find S.rows k with
   | some (.obox _ fs)=>iX fs
   | _=>[]
  | _=>[]
 | _=>[]
def toOpen (S:ES):Operand->Bool
 | .tmp t=>match find S.env t with
  | some (.po k _ _)=>Nat.ble opened k
  | _=>false
 | _=>false
def ng (al:List (Nat×Nat)):Operand->Operand
 | .tmp t=>match find al t with
  | some u=>.tmp u
  | none=>.tmp t
 | x=>x
def aliasN (al:List (Nat×Nat)) (o:Oper):List (Nat×Nat):=match o.op,o.dst with
 | .move (.tmp u),some d=>match find al u with
  | some v=>(d,v) :: al
  | none=>(d,u) :: al
 | _,_=>al
def handed (T:gU) (own:List Nat) (al:List (Nat×Nat)) (S:ES) (o:Oper):List Nat:=match o.op with
 | .box _ x=>zU S (ng al x)
 | .build _ ps=>match o.dst with
  | some d=>match mem own d with
   | true=>[]
   | false=>mT S (ps.toList.map fun p=>ng al p.2)
  | none=>[]
 | .buildSlice _ _ ps=>match o.dst with
  | some d=>match mem own (d+opened) with
   | true=>[]
   | false=>mT S (ps.toList.map fun p=>ng al p.2)
  | none=>mT S (ps.toList.map fun p=>ng al p.2)
 | .store _ x y=>match toOpen S (ng al x) with
  | true=>[]
  | false=>zU S (ng al y)
 | .load _ x=>B8 S (ng al x)
 | .convert _ _ x=>zU S (ng al x)
 | .call c=>match c.callee with
  | .value x=>mT S ((kept T (sF own x) c.args.toList).map (ng al))
  | .builtin .append=>mT S ((c.args.toList.drop 1).map (ng al))
  | _=>[]
 | _=>[]
def Oz (o:Oper):Bool:=match o.op with
 | .alloc _=>true
 | .box _ _=>true
 | .build _ _=>true
 | .makeSlice _ _ _=>true
 | .buildSlice _ _ _=>true
 | .move (.const (.slice _ _ _))=>true
 | .assign (.const (.slice _ _ _))=>true
 | .call c=>match c.callee with
  | .builtin .append=>match c.args.toList with
   | .const _ :: _=>true
   | _=>false
  | _=>false
 | _=>false
def ES.yB (S:ES) (k:Nat):ES:=match find S.rows k,Nat.beq k cd with
 | some _,false=>⟨rU (ia k) S.env,sQ (lT k) (lV k S.rows)⟩
 | _,_=>S
def ES.fresh (own:List Nat) (S:ES) (o:Oper):ES:=match Oz o,o.dst with
 | true,some d=>match o.op with
  | .alloc _=>match mem own (d+opened) with
   | true=>S.yB (d+opened)
   | false=>S.yB d
  | _=>S.yB d
 | _,_=>S
def ES.mG (T:gU) (own:List Nat):List (Nat×Nat)->ES->List Oper->ES
 | _,S,[]=>S
 | al,S,o :: l=>ES.mG T own (aliasN al o) ((S.gL (handed T own al S o)).fresh own o) l
def qV (rd:Nat->Option df) (x:Operand):Option Bool:=match gA rd x with
 | some (.v .bool b)=>some b
 | _=>none
def ES.forget (S:ES):List Oper->ES
 | []=>S
 | o :: l=>match o.dst with
  | some d=>(S.put d .any).forget l
  | none=>S.forget l
def Oy (t:Nat):List Oper->Option (List Oper×Oper×List Oper)
 | []=>none
 | o :: l=>match (match o.op with
  | .pick (.tmp c) _ _=>Nat.beq c t
  | _=>false) with
  | true=>some ([],o,l)
  | false=>match Oy t l with
   | some x=>some (o :: x.1,x.2.1,x.2.2)
   | none=>none
def Oe:Option (Nat×Bool)->Option (Nat×Bool)->Bool
 | none,none=>true
 | some x,some y=>Nat.beq x.1 y.1&&(x.2==y.2)
 | _,_=>false
def inner (ops:List Oper) (j:Nat) (w:Bool) (prot:List Nat) (i:Nat):List Oper->Nat->Bool
 | [],_=>true
 | o :: l,n=>(match o.guard with
  | none=>false
  | some g=>((Nat.beq g.1 j&&(g.2==w))||(Nat.ble i g.1&&Nat.blt g.1 n))&&(match (ops[g.1]?).bind (·.dst) with
   | some _=>true
   | none=>false))&&(match o.dst with
  | none=>true
  | some d=>!mem prot d)&&inner ops j w prot i l (n+1)
def Nc (l:List Nat):df->Bool
 | .own k=>mem l k
 | .po k _ _=>mem l k
 | .pe k _ _ _ _=>mem l k
 | .tup _ _=>false
 | .st fs=>(iX fs).all (mem l)
 | .pa k _ _ _ _ _=>mem l k
 | .wn k _=>mem l k
 | .mp _=>false
 | _=>true
def visO (rf:Option (List Nat)) (v:df):Bool:=match rf with
 | none=>true
 | some l=>Nc l v
def pA (l:List Nat):fj->fj
 | .own k=>match mem l k with
  | true=>.own k
  | false=>.hole
 | f=>f
def sm (rf:Option (List Nat)) (r:bZ):bZ:=match rf with
 | none=>r
 | some l=>match r with
  | .obox e fs=>.obox e (ub (pA l) fs)
  | r=>r
def mh (lim:Option (List Meta)) (i:Nat) (S:ES):Nat->Option df:=match lim with
 | none=>find S.env
 | some ms=>match ms[i]? with
  | none=>fun _=>none
  | some m=>fun t=>match mem m.rt t with
   | true=>match find S.env t with
    | some v=>match visO m.rf v with
     | true=>some v
     | false=>none
    | none=>none
   | false=>none
def wb (lim:Option (List Meta)) (i:Nat) (S:ES):Nat->Option (Option bZ):=match lim with
 | none=>fun k=>some (find S.rows k)
 | some ms=>match ms[i]? with
  | none=>fun _=>none
  | some m=>fun k=>match mem m.rr k with
   | true=>some ((find S.rows k).map (sm m.rf))
   | false=>none
def AW (rf:Option (List Nat)):bZ->Bool
 | .obox _ fs=>match rf with
  | none=>true
  | some l=>(iX fs).all (mem l)
 | _=>true
def zI (lim:Option (List Meta)) (ctx:Option (Nat×Bool)) (i:Nat) (r:Option (Nat×bZ)):Bool:=match r with
 | none=>true
 | some x=>match ctx with
  | some _=>false
  | none=>match lim with
   | none=>true
   | some ms=>match ms[i]? with
    | none=>false
    | some m=>mem m.wr x.1&&AW m.rf x.2
def ni (lim:Option (List Meta)) (i:Nat) (v:df):Bool:=match lim with
 | none=>true
 | some ms=>match ms[i]? with
  | none=>false
  | some m=>match m.kl with
   | none=>visO m.rf v
   | some _=>false
def kF (prot:List Nat):Option Nat->Bool
 | none=>true
 | some d=>!mem prot d
def ES.res (S:ES) (d:Option Nat) (v:df) (r:Option (Nat×bZ)):ES :=
 let S:=match r with
  | some x=>S.set x.1 x.2
  | none=>S
 match d with
 | some d=>S.put d v
 | none=>S
def GX {β:Type} (c:Option Kk) (x:Option β):Option β:=match c with
 | none=>x
 | some c=>@ite _ c.p c.d x none
def yu (ln:Option Nat) (i:Nat):Bool:=match ln with
 | some j=>Nat.beq i j
 | none=>false
def isArr:Ty->Bool
 | .arr _ _=>true
 | _=>false
def LW:Ty->Bool
 | .list _=>true
 | _=>false
def mb (e:TypeId):(t:Ty)->t.den->bZ
 | .list c,l=>.arr e c l
 | t,x=>.box e t x
def lval:Ty->df
 | .list _=>.own cd
 | _=>.po cd 0 []
def Ee (e:TypeId) (c:Ty):bZ->Option c.den
 | .box e' t y=>match Nat.beq e' e,LW c with
  | true,false=>fC c y
  | _,_=>none
 | .arr e' t l=>match Nat.beq e' e with
  | true=>fC (a:=.list t) c l
  | false=>none
 | _=>none
def kT (rd:Nat->Option df) (rr:Nat->Option (Option bZ)) (ln:Option Nat):Nat->List Operand->List Ty->Option (List df)
 | _,[],[]=>some []
 | i,x :: xs,t :: ts=>match gA rd x with
  | some v=>match (match yu ln i with
   | true=>match v with
    | .po k 0 []=>match rr k with
     | some (some (.box e c y))=>match LW t with
      | false=>fC t y
      | true=>none
     | _=>none
    | .own k=>match rr k with
     | some (some (.arr e c l))=>fC (a:=.list c) t l
     | _=>none
    | _=>none
   | false=>coe t v) with
   | some y=>match kT rd rr ln (i+1) xs ts with
    | some l=>some (.v t y :: l)
    | none=>none
   | none=>none
  | none=>none
 | _,_,_=>none
def rO (b:Bool) (t:Ty) (r:t.den):df:=match b with
 | true=>.tup t r
 | false=>.v t r
def Lv (b:Bool):(t:Ty)->t.den->Option (df×df)
 | .pair a c,r=>some (rO b a r.1,.v c r.2)
 | _,_=>none
def sX (rd:Nat->Option df):Nat->List Operand->Option Nat
 | _,[]=>none
 | 0,x :: _=>match gA rd x with
  | some (.po k 0 [])=>some k
  | some (.own k)=>some k
  | _=>none
 | n+1,_ :: l=>sX rd n l
def ov (ctx:Option (Nat×Bool)) (lim:Option (List Meta)) (A B:ES):ES:=match ctx,lim with
 | none,none=>A
 | _,_=>B
def Hg (T:gU) (F:Nat) (o:Oper):Builtin->Bool
 | .append=>match o.op,o.dst with
  | .call c,some d=>match c.args.toList with
   | .const _ :: _=>mem ((find T.own F).getD []) d
   | _=>true
  | _,_=>true
 | _=>false
def keeps (T:gU) (F:Nat) (lim:Option (List Meta)) (d:Nat):Bool:=match lim with
 | none=>true
 | some _=>mem ((find T.own F).getD []) d
inductive Lt where
 | no
 | cd (j:Nat) (e:TypeId)
 | given (j:Nat) (e:TypeId)
def uY (T:gU) (g:Nat):Lt:=match find T.lent_ g with
 | some (j,e)=>.cd j e
 | none=>match find T.given_ g with
  | some (j,e)=>.given j e
  | none=>.no
def tc (T:gU) (F:Nat):Bool:=match uY T F with
 | .given _ _=>true
 | _=>false
def Au (lim:Option (List Meta)) (i j:Nat):Bool:=match lim with
 | none=>true
 | some ms=>match ms[i]? with
  | none=>false
  | some m=>match m.kl,m.rf with
   | some k,some l=>Nat.beq k j&&mem m.wr j&&mem l j
   | _,_=>false
def DY:Nat->List Operand->Bool
 | _,[]=>false
 | 0,x :: _=>match x with
  | .const (.slice none 0 0)=>true
  | _=>false
 | n+1,_ :: l=>DY n l
section
variable (T:gU) (F:Nat) (call:(g:Nat)->List df->Option (T.out g).den) (lim:Option (List Meta)) (ctx:Option (Nat×Bool)) (i:Nat) {β:Type}
def G2 (o:Oper) (c:Call) (g d:Nat) (ts:List Ty) (j:Nat) (e:TypeId) (S:ES) (k:ES->Option β):Option β :=
 match DY j c.args.toList with
 | true=>match kT (mh lim i S) (wb lim i S) none 0 c.args.toList ts,find S.rows d,ts[j]?,lim,Nat.ble opened d with
  | some vs,none,some (.list q),none,false=>(call g vs).bind fun r=>match fC (a:=T.out g) (.list q) r,T.cV g with
   | some r,false=>k ⟨(d,.own d) :: rU (ia d) S.env,(d,.arr e q r) :: sQ (lT d) S.rows⟩
   | _,_=>none
  | _,_,_,_,_=>none
 | false=>match sX (mh lim i S) j c.args.toList,kT (mh lim i S) (wb lim i S) (some j) 0 c.args.toList ts with
  | some q,some vs=>match wb lim i S q,ts[j]?,(Nat.beq q cd&&!tc T F)||Nat.ble opened q with
   | some (some (.arr e0 c0 l0)),some (.list cj),false=>match Nat.beq e0 e,jE c0 cj,Au lim i q with
    | true,some _,true=>(call g vs).bind fun r=>match fC (a:=T.out g) (.list cj) r,T.cV g with
     | some r,false=>k ⟨(d,.own q) :: rU (ia q) S.env,(q,.arr e cj r) :: sQ (lT q) S.rows⟩
     | _,_=>none
    | _,_,_=>none
   | _,_,_=>none
  | _,_=>none
def MA (o:Oper) (c:Call) (x:Operand) (S:ES) (k:ES->Option β):Option β :=
 match gA (mh lim i S) x,o.dst with
 | some (.v .fn g),some d=>match find T.par g,uY T g with
  | some ts,.no=>match Nat.ble 1000000 g,kT (mh lim i S) (wb lim i S) none 0 c.args.toList ts with
   | false,some vs=>(call g vs).bind fun r=>match ni lim i (rO (T.cV g) (T.out g) r) with
    | true=>k (S.put d (rO (T.cV g) (T.out g) r))
    | false=>none
   | _,_=>none
  | some ts,.given j e=>match ctx,(match x with | .func _=>true | _=>false),Nat.ble 1000000 g with
   | none,true,false=>G2 T F call lim i o c g d ts j e S k
   | _,_,_=>none
  | some ts,.cd j e=>match ctx,sX (mh lim i S) j c.args.toList,(match x with | .func _=>true | _=>false) with
   | none,some q,true=>match !Nat.ble opened q,wb lim i S q,kT (mh lim i S) (wb lim i S) (some j) 0 c.args.toList ts with
    | true,some (some r0),some vs=>match ts[j]? with
     | some tj=>match Ee e tj r0 with
      | some _=>(call g vs).bind fun r=>match Lv (T.cV g) (T.out g) r with
       | some (v,.v c2 y2)=>match jE tj c2,zI lim none i (some (q,mb e c2 y2))&&ni lim i v with
        | some _,true=>k ((S.set q (mb e c2 y2)).put d v)
        | _,_=>none
       | _=>none
      | none=>none
     | none=>none
    | _,_,_=>none
   | _,_,_=>none
  | _,_=>none
 | _,_=>none
def Cd (o:Oper) (c:Call) (S:ES) (k:ES->Option β):Option β :=
 match c.args.toList,c.argTypes.toList,o.dst with
 | [x,y],[t,t'],some d=>match BQ T t,gA (mh lim i S) x,gA (mh lim i S) y with
  | some (e,q),some vx,some vy=>match find T.by_ e,coe (.list q) vy,Nat.beq t t'&&gO q with
   | some b,some m,true=>match x,vx with
    | .tmp _,.own j=>match wb lim i S j,Au lim i j with
     | some (some (.arr e' q' l)),true=>match fC (.list q) (a:=.list q') l,Nat.beq e e',(Nat.beq j cd&&!(tc T F&&keeps T F lim d))||Nat.ble opened j with
      | some l2,true,false=>match keeps T F lim d with
       | true=>GX (some ⟨(l2.length+m.length)*b<=140737488355328,inferInstance⟩)
        (k ⟨(d,.own j) :: rU (ia j) S.env,(j,.arr e q (l2++m)) :: sQ (lT j) S.rows⟩)
       | false=>GX (some ⟨(l2.length+m.length)*b<=140737488355328,inferInstance⟩)
        (k ⟨(d,.v (.list q) (l2++m)) :: rU (ia j) S.env,sQ (lT j) (lV j S.rows)⟩)
      | _,_,_=>none
     | _,_=>none
    | .const (.slice none 0 0),_=>match wb lim i S d,ni lim i (.own d),zI lim none i (some (d,.arr e q m)) with
     | some none,true,true=>GX (some ⟨m.length*b<=140737488355328,inferInstance⟩)
      (k ⟨(d,.own d) :: S.env,(d,.arr e q m) :: S.rows⟩)
     | _,_,_=>none
    | _,_=>none
   | _,_,_=>none
  | _,_,_=>none
 | _,_,_=>none
def xz (o:Oper) (t:TypeId) (x hi:Operand) (S:ES) (k:ES->Option β):Option β :=
 match o.dst,BQ T t,gA (find S.env) x,intOf (find S.env) hi with
 | some d,some (e,q),some (.own j),some h=>match find S.rows j,lim with
  | some (.arr e' q' l),none=>match fC (.list q) (a:=.list q') l,Nat.beq e e'&&gO q,(Nat.beq j cd&&!tc T F)||Nat.ble opened j with
   | some l2,true,false=>GX (some ⟨0<l2.length/\0<=h/\h<=(l2.length:Int),inferInstance⟩)
    (k ⟨(d,.own j) :: rU (ia j) S.env,(j,.arr e q (l2.take h.toNat)) :: sQ (lT j) S.rows⟩)
   | _,_,_=>none
  | _,_=>none
 | _,_,_,_=>none
def LL (t:TypeId) (x y z:Operand) (S:ES) (k:ES->Option β):Option β :=
 match x,N7 T t,gA (find S.env) x,gA (find S.env) y,gA (find S.env) z,lim with
 | .tmp tm,true,some (.mp l),some (.v .str s),some (.v (.int .i64) n),none=>k ⟨(tm,.mp (V.lC l s n)) :: rU H6 S.env,S.rows⟩
 | _,_,_,_,_,_=>none
def KN (T:gU) (F:Nat) (rd:Nat->Option df) (rr:Nat->Option (Option bZ)) (o:Oper):Option E6:=match pn T F rd rr o with
 | some r=>some r
 | none=>match iv T F rd rr o with
  | some r=>some r
  | none=>step T F rd rr o
def uK (o:Oper) (S:ES) (k:ES->Option β):Option β :=
 match KN T F (mh lim i S) (wb lim i S) o with
 | some r=>match zI lim ctx i r.r&&ni lim i r.v with
  | true=>GX r.c (k (S.res o.dst r.v r.r))
  | false=>none
 | none=>none
def Lo (o:Oper) (c x y:Operand) (S:ES) (k:ES->Option β):Option β :=
 match gA (mh lim i S) c,gA (mh lim i S) x,gA (mh lim i S) y,o.dst with
 | some (.v .bool b),some (.v .bool u),some (.v .bool v),some d=>match ni lim i (.v .bool true) with
  | true=>k (S.put d (.v .bool (match x,y with
   | .const (.bool true),_=>b||v
   | _,.const (.bool false)=>b&&u
   | _,_=>cond b u v)))
  | false=>none
 | _,_,_,_=>none
def isOwn (S:ES) (x:Operand):Bool:=match gA (find S.env) x with
 | some (.own _)=>true
 | _=>false
def opE (o:Oper) (S:ES) (k:ES->Option β):Option β :=
 match o.op with
 | .call c=>match c.callee with
  | .value x=>MA T F call lim ctx i o c (sF ((find T.own F).getD []) x) (ov ctx lim (S.gL (mT S (kept T (sF ((find T.own F).getD []) x) c.args.toList))) S) k
  | .builtin b=>match Hg T F o b with
   | false=>uK T F lim ctx i o (ov ctx lim ((S.gL (handed T ((find T.own F).getD []) [] S o)).fresh ((find T.own F).getD []) o) S) k
   | true=>match ctx with
    | none=>Cd T F lim i o c (ov ctx lim ((S.gL (mT S (c.args.toList.drop 1))).fresh ((find T.own F).getD []) o) S) k
    | _=>none
  | .invoke _ _=>none
 | .pick c x y=>Lo lim i o c x y S k
 | .mapUpdate t x y z=>match ctx,o.dst with
  | none,none=>LL T lim t x y z S k
  | _,_=>none
 | .slice t x none (some hi) none=>match ctx,isOwn S x with
  | none,true=>xz T F lim o t x hi S k
  | _,_=>uK T F lim ctx i o (ov ctx lim ((S.gL (handed T ((find T.own F).getD []) [] S o)).fresh ((find T.own F).getD []) o) S) k
 | _=>uK T F lim ctx i o (ov ctx lim ((S.gL (handed T ((find T.own F).getD []) [] S o)).fresh ((find T.own F).getD []) o) S) k
end
def run (T:gU) (F:Nat) (call:(g:Nat)->List df->Option (T.out g).den) (ops:List Oper) (lim:Option (List Meta)) :
 (fuel:Nat)->(β:Type)->Option (Nat×Bool)->List Nat->Nat->List Oper->ES->(ES->Option β)->Option β
 | 0,_,_,_,_,_,_,_=>none
 | n+1,β,ctx,prot,i,l,S,K=>match l with
  | []=>K S
  | o :: l'=>match Oe o.guard ctx with
   | true=>match kF prot o.dst with
    | false=>none
    | true=>opE T F call lim ctx i o S fun S'=>run T F call ops lim n β ctx prot (i+1) l' S' K
   | false=>match o.guard with
    | none=>none
    | some (j,w)=>match (ops[j]?).bind (·.dst) with
     | none=>none
     | some t=>match Oy t (o :: l') with
      | none=>none
      | some (G,pk,rest) =>
       let S:=ov ctx lim (ES.mG T ((find T.own F).getD []) [] S G) S
       match find S.env t,inner ops j w (t :: prot) i G i,Oe pk.guard ctx,kF prot pk.dst,pk.op,pk.dst with
       | some (df.v Ty.bool b),true,true,true,Op.pick _ x y,some d =>
        match qV (mh lim (i+G.length) (S.forget G)) (match w with | true=>y | false=>x),qV (mh lim (i+G.length) (S.forget G)) (.tmp t) with
        | some other,some _ =>
         (match w with
          | true=>cond b (run T F call ops lim n Bool (some (j,w)) (t :: prot) i G S (fun S'=>qV (mh lim (i+G.length) S') x)) (some other)
          | false=>cond b (some other) (run T F call ops lim n Bool (some (j,w)) (t :: prot) i G S (fun S'=>qV (mh lim (i+G.length) S') y))).bind fun y'=>run T F call ops lim n β ctx prot (i+G.length+1) rest ((S.forget G).put d (.v .bool y')) K
        | _,_=>none
       | _,_,_,_,_,_=>none
def tmpOf:Operand->Option Nat
 | .tmp t=>some t
 | _=>none
def Gr (o:Oper):List Nat:=o.op.operands.toList.filterMap tmpOf
def leadsTo:df->Option Nat
 | .own k=>some k
 | .po k _ _=>some k
 | .pe k _ _ _ _=>some k
 | .pa k _ _ _ _ _=>some k
 | .wn k _=>some k
 | _=>none
def Hf:List (Nat×bZ)->List Nat
 | []=>[]
 | x :: l=>match x.2 with
  | .arr _ _ _=>x.1 :: Hf l
  | _=>Hf l
def makes (own:List Nat) (o:Oper):List Nat:=match o.op,o.dst with
 | .alloc _,some d=>match mem own (d+opened) with
  | true=>[d+opened]
  | false=>[d]
 | .box _ _,some d=>[d]
 | .build _ _,some d=>match mem own d with
  | true=>[d]
  | false=>[]
 | .makeSlice _ _ _,some d=>match mem own d with
  | true=>[d]
  | false=>[]
 | .buildSlice _ _ _,some d=>match mem own (d+opened) with
  | true=>[d+opened]
  | false=>match mem own d with
   | true=>[d]
   | false=>[]
 | .move (.const (.slice none 0 0)),some d=>match mem own d with
  | true=>[d]
  | false=>[]
 | .assign (.const (.slice none 0 0)),some d=>match mem own d with
  | true=>[d]
  | false=>[]
 | .call c,some d=>match c.callee with
  | .builtin .append=>match c.args.toList with
   | .const _ :: _=>match mem own d with
    | true=>[d]
    | false=>[]
   | _=>[]
  | _=>[]
 | _,_=>[]
def u7 (T:gU) (o:Oper):Option Nat:=match o.op with
 | .call c=>match c.callee with
  | .builtin .append=>match c.args.toList with
   | .tmp t :: _=>some t
   | _=>none
  | .value (.func g)=>match find T.given_ g with
   | some (j,_)=>match c.args.toList[j]? with
    | some (.tmp t)=>some t
    | _=>none
   | none=>none
  | _=>none
 | _=>none
def IQ (T:gU):List Oper->Bool
 | []=>false
 | o :: l=>match u7 T o with
  | some _=>true
  | none=>IQ T l
def L7 (S:ES) (k:Nat):Option Nat:=match find S.rows k with
 | some (.obox _ fs)=>match iX fs with
  | j :: _=>some j
  | []=>none
 | _=>none
def Ia (T:gU) (own:List Nat) (gr:Bool) (ops:List Oper) (S:ES):List Nat->List (Nat×Nat)->List Oper->List Meta
 | _,_,[]=>[]
 | ar,al,o :: l =>
  let lead:Nat->Option Nat:=fun t=>match find al t with
   | some k=>some k
   | none=>(find S.env t).bind leadsTo
  let rt:=(match o.guard with
   | some (j,_)=>match (ops[j]?).bind (·.dst) with
    | some t=>[t]
    | none=>[]
   | none=>[])++Gr o
  let leads:=(Gr o).filterMap lead
  let rr:=match o.op with
   | .move _=>[]
   | .assign _=>[]
   | .nilCheck _=>[]
   | _=>leads
  let nw:List Nat:=makes own o
  let grow:Option Nat:=(u7 T o).bind lead
  let slice:Bool:=match o.op with
   | .load t _=>match find T.ty t with
    | some (.list _)=>true
    | _=>false
   | _=>false
  let wr:List Nat:=nw++grow.toList++(match o.op with
   | .store _ (.tmp t) _=>(lead t).toList
   | .call c=>match c.callee with
    | .builtin .copy=>match c.args.toList with
     | .tmp t :: _=>(lead t).toList
     | _=>[]
    | .value x=>match sF own x with
     | .func g=>match find T.lent_ g with
      | some (j,_)=>match c.args.toList[j]? with
       | some (.tmp t)=>(lead t).toList
       | _=>[]
      | none=>[]
     | _=>[]
    | _=>[]
   | _=>[])
  let al':List (Nat×Nat):=match o.dst with
   | some d=>match nw with
    | k :: _=>(d,k) :: al
    | []=>match o.op with
     | .call _=>match grow with
      | some k=>(d,k) :: al
      | none=>al
     | .load _ x=>match slice,x with
      | true,.tmp t=>match lead t with
       | some k=>match Nat.ble opened k with
        | true=>match L7 S k with
         | some j=>(d,j) :: al
         | none=>match ar with
          | j :: _=>(d,j) :: al
          | []=>al
        | false=>al
       | none=>al
      | _,_=>al
     | _=>match Gr o with
      | t :: _=>match lead t with
       | some k=>(d,k) :: al
       | none=>al
      | []=>al
   | none=>al
  let ar':List Nat:=nw++ar
  let opn:Bool:=leads.any (Nat.ble opened)
  let rf:Option (List Nat):=match gr with
   | false=>none
   | true=>match o.op with
    | .extract _ _=>none
    | .call c=>match c.callee with
     | .value x=>match sF own x with
      | .func g=>match T.cV g with
       | true=>none
       | false=>some leads
      | _=>none
     | _=>some (nw++leads)
    | .load _ _=>match slice&&opn with
     | true=>some (ar'++leads)
     | false=>some leads
    | .store _ _ _=>match opn with
     | true=>some (ar'++leads)
     | false=>some leads
    | _=>some (nw++leads)
  { rt:=rt,rr:=nw++rr,wt:=o.dst.toList,wr:=wr,kl:=match gr with
   | true=>grow
   | false=>none,rf:=rf } :: Ia T own gr ops S ar' al' l
def addN:List Nat->List Nat->List Nat
 | [],acc=>acc
 | x :: l,acc=>match mem acc x with
  | true=>addN l acc
  | false=>addN l (x :: acc)
def IJ (ops:List Oper):List Oper->List (List Nat)->List (List Nat)
 | [],B=>B
 | o :: l,B=>IJ ops l (B++[o.after.toList.foldr (fun e acc=>match Region.binds .any e with
  | true=>addN (e.on :: B.getD e.on []) acc
  | false=>acc) []])
def wK (T:gU) (ops:List Oper):List Oper->List Meta->Bool
 | [],[]=>true
 | o :: l,m :: ms=>(match o.guard with
  | none=>true
  | some (j,_)=>match (ops[j]?).bind (·.dst) with
   | some t=>mem m.rt t
   | none=>true)&&(match o.dst with
  | none=>true
  | some d=>mem m.wt d)&&(match m.kl with
  | none=>true
  | some _=>match u7 T o,o.guard with
   | some _,none=>true
   | _,_=>false)&&wK T ops l ms
 | _,_=>false
def BR (nt:Nat):List Oper->Bool
 | []=>true
 | o :: l=>(match o.dst with
  | none=>true
  | some d=>Nat.blt d nt)&&BR nt l
def region (T:gU) (F nt:Nat) (call:(g:Nat)->List df->Option (T.out g).den) (ops:List Oper) (draw:Bool) {β:Type} (S:ES) (K:ES->Option β):Option β :=
 match BR nt ops&&Nat.ble nt cd with
 | false=>none
 | true=>match T.hook ops draw S with
 | some h=>match h.x with
  | some y=>K (h.f y)
  | none=>none
 | none=>match draw with
  | false=>run T F call ops none (ops.length+1) β none [] 0 ops S K
  | true =>
   let S:=ES.mG T ((find T.own F).getD []) [] S ops
   let ms:=Ia T ((find T.own F).getD []) (IQ T ops) ops S (Hf S.rows) [] ops
   let B:=IJ ops ops []
   match wK T ops ops ms,Bs ops B,Br ms B with
   | true,true,true=>run T F call ops (some ms) (ops.length+1) β none [] 0 ops S K
   | _,_,_=>none
def JW:Code->Nat
 | .region id _ _=>id
 | .seq a _=>JW a
 | .block _ c=>JW c
 | .loop c=>JW c
 | .scope c=>JW c
 | _=>1000000
def z7:List (Nat×Bool×TypeId)->ES->ES
 | [],S=>S
 | x :: l,S=>match x.2.1 with
  | true=>z7 l S
  | false=>z7 l (S.gL (zU S (.tmp x.1)++B8 S (.tmp x.1)))
def je (T:gU) (S:ES):List (Nat×Bool×TypeId)->List (Nat×df)
 | []=>[]
 | x :: l=>match find S.env x.1 with
  | some .any=>je T S l
  | some .undef=>je T S l
  | some (.st _)=>je T S l
  | some (.tup _ _)=>je T S l
  | some .nilS=>match find T.ty x.2.2 with
   | some (.list c)=>(x.1,.v (.list c) []) :: je T S l
   | _=>je T S l
  | some v=>(x.1,v) :: je T S l
  | none=>je T S l
def ownsR:bZ->List Nat
 | .obox _ fs=>iX fs
 | _=>[]
def lU (S:ES) (acc:List (Nat×bZ)):List Nat->List (Nat×bZ)
 | []=>acc
 | j :: l=>match find S.rows j with
  | some r=>(j,r) :: lU S acc l
  | none=>lU S acc l
def keepRows (S:ES):List (Nat×df)->List (Nat×bZ)
 | []=>match find S.rows cd with
  | some r=>[(cd,r)]
  | none=>[]
 | x :: l=>match leadsTo x.2 with
  | none=>keepRows S l
  | some k=>match find S.rows k with
   | some r=>(k,r) :: lU S (keepRows S l) (ownsR r)
   | none=>keepRows S l
def Lr (S:ES) (R:List (Nat×bZ)):Bool:=R.all fun x=>(ownsR x.2).all fun j=>(find R j).isSome||(find S.rows j).isNone
def norm (T:gU) (lv:List (Nat×Bool×TypeId)) (S:ES):ES :=
 let S1:=z7 lv S
 let env:=je T S1 lv
 let R:=keepRows S1 env
 match Lr S1 R with
 | true=>⟨env,R⟩
 | false=>S1
def mU (T:gU) (F id:Nat) (S:ES):ES:=match find T.live F with
 | none=>S
 | some l=>match find l id with
  | none=>S
  | some lv=>norm T lv S
def Ea {β:Type} (nm:ES->ES) (stp:ES->(Exit->ES->Option β)->Option β):Nat->ES->(Exit->ES->Option β)->Option β
 | 0,_,_=>none
 | n+1,S,K=>stp S fun e S'=>match e with
  | .normal=>Ea nm stp n (nm S') K
  | e=>K e S'
def code (T:gU) (F nt:Nat) (call:(g:Nat)->List df->Option (T.out g).den) (n:Nat) {β:Type}:Code->ES->(Exit->ES->Option β)->Option β
 | .skip,S,K=>K .normal S
 | .label _,S,K=>K .normal S
 | .exit i,S,K=>K (.exit i) S
 | .ret,S,K=>K .ret S
 | .region _ ops draw,S,K=>region T F nt call ops.toList draw S (K .normal)
 | .seq a b,S,K=>code T F nt call n a S fun e S'=>match e with
  | .normal=>code T F nt call n b (mU T F (JW b) S') K
  | e=>K e S'
 | .cond c x y,S,K=>match qV (find S.env) c with
  | some b=>cond b (code T F nt call n x S K) (code T F nt call n y S K)
  | none=>none
 | .block i c,S,K=>code T F nt call n c S fun e S'=>match e with
  | .exit j=>match Nat.beq j i with
   | true=>K .normal S'
   | false=>K (.exit j) S'
  | e=>K e S'
 | .scope c,S,K=>code T F nt call n c S fun e S'=>match e with
  | .goto _=>none
  | e=>K e S'
 | .loop c,S,K=>Ea (mU T F (JW c)) (fun S K=>code T F nt call n c S K) n (mU T F (JW c) S) K
 | _,_,_=>none
def uy:Nat->List df->List (Nat×df)
 | _,[]=>[]
 | i,v :: l=>(i,v) :: uy (i+1) l
def Dh (T:gU) (S:ES):ResultVar->Option df
 | .tmp t=>find S.env t
 | .cell t ty=>match find S.env t,find T.ty ty with
  | some (.po k 0 []),some c2=>match find S.rows k with
   | some (.box e c y)=>match fC c2 y,isArr c with
    | some z,false=>some (.v c2 z)
    | _,_=>none
   | some (.obox e fs)=>match DJ c2 fs with
    | some z=>some (.v c2 z)
    | none=>none
   | _=>none
  | _,_=>none
def zS (T:gU) (S:ES):(t:Ty)->List ResultVar->Option t.den
 | .unit,[]=>some ()
 | .pair a b,x :: l=>match Dh T S x with
  | some v=>match coe a v,zS T S b l with
   | some y,some z=>some (y,z)
   | _,_=>none
  | none=>none
 | _,_=>none
def ic (S:ES):List ResultVar->ES
 | []=>S
 | .tmp t :: l=>ic (S.gL (zU S (.tmp t))) l
 | .cell t _ :: l=>ic (S.gL (B8 S (.tmp t))) l
def tQ (T:gU) (S:ES) (cV:Bool) (t:Ty) (l:List ResultVar):Option t.den:=match cV with
 | true=>match l with
  | [_]=>none
  | _ :: _ :: _ :: _ :: _=>none
  | _=>zS T S t l
 | false=>match l with
  | [x]=>match Dh T S x with
   | some v=>coe t v
   | none=>none
  | _=>none
def oV (T:gU) (cV:Bool) (te:TypeId) (c0:Ty) (rs:List ResultVar) (S:ES):(t:Ty)->Option t.den
 | .pair a c=>match jE c0 c,tQ T S cV a rs,find S.rows cd with
  | some _,some x,some r=>match Ee te c r with
   | some z=>some (x,z)
   | none=>none
  | _,_,_=>none
 | _=>none
def oW (te:TypeId) (S:ES) (rs:List ResultVar):(t:Ty)->Option t.den
 | .list c=>match rs with
  | [.tmp u]=>match find S.env u with
   | some (.own k)=>match find S.rows k,Nat.ble opened k with
    | some (.arr e c' l),false=>match Nat.beq e te with
     | true=>fC (a:=.list c') (.list c) l
     | false=>none
    | _,_=>none
   | _=>none
  | _=>none
 | _=>none
def LB:List ResultVar->Bool
 | [.tmp _]=>true
 | _=>false
def HX (c0:Ty):Ty->Bool
 | .pair _ c=>(jE c0 c).isSome
 | _=>false
structure pO (T:gU) where
 t:Ty
 g:((g:Nat)->List df->Option (T.out g).den)->Nat->List df->Option t.den
def body (T:gU) (call:(g:Nat)->List df->Option (T.out g).den) (n F:Nat) (fn:Func) (args:List df):Option (T.out F).den :=
 match fn.body with
 | none=>none
 | some c=>match Nat.ble args.length fn.ntmps with
  | false=>none
  | true=>match uY T F with
   | .given j te=>match args[j]?,T.cV F with
    | some (.v (.list c0) y0),false=>match jE (.list c0) (T.out F),LB fn.results.toList with
     | none,_=>none
     | _,false=>none
     | some _,true=>code T F fn.ntmps call n c ⟨(j,.own cd) :: uy 0 args,[(cd,.arr te c0 y0)]⟩ fun e S=>match e with
      | .ret=>oW te S fn.results.toList (T.out F)
      | .normal=>oW te S fn.results.toList (T.out F)
      | _=>none
    | _,_=>none
   | .no=>code T F fn.ntmps call n c ⟨uy 0 args,[]⟩ fun e S=>match e with
    | .ret=>tQ T (ic S fn.results.toList) (T.cV F) (T.out F) fn.results.toList
    | .normal=>tQ T (ic S fn.results.toList) (T.cV F) (T.out F) fn.results.toList
    | _=>none
   | .cd j te=>match args[j]? with
    | some (.v c0 y0)=>match HX c0 (T.out F) with
     | false=>none
     | true=>code T F fn.ntmps call n c ⟨(j,lval c0) :: uy 0 args,[(cd,mb te c0 y0)]⟩ fun e S=>match e with
      | .ret=>oV T (T.cV F) te c0 fn.results.toList (ic S fn.results.toList) (T.out F)
      | .normal=>oV T (T.cV F) te c0 fn.results.toList (ic S fn.results.toList) (T.out F)
      | _=>none
    | _=>none
def fn (T:gU) (eo:List (Nat×pO T)):Nat->(F:Nat)->List df->Option (T.out F).den
 | 0,_,_=>none
 | k+1,F,args=>match find eo F with
  | some o=>match jE o.t (T.out F) with
   | some h=>h.down ▸ o.g (fn T eo k) k args
   | none=>none
  | none=>match T.P.funcs[real F]? with
   | some f=>body T (fn T eo k) k F f args
   | none=>none
theorem yH {α:Type} {enc:α->List CV} {z:α} {m:Nat} (h:∀ x,(enc x).length=m):∀ (n:Nat) (l:List α),(oZ enc z n l).length=n*m
 | 0,_=>by simp [oZ]
 | n+1,[]=>by simp only [oZ,Qf,h,yH h n,Vi];omega
 | n+1,a :: l=>by simp only [oZ,Qf,h,yH h n,Vi];omega
theorem um {α:Type} {enc:α->List CV} {z:α} {p:CV->Bool} (h:∀ x,(enc x).all p=true):∀ (n:Nat) (l:List α),(oZ enc z n l).all p=true
 | 0,_=>rfl
 | n+1,[]=>by simp only [oZ,Xi,h,um h n,XE]
 | n+1,a :: l=>by simp only [oZ,Xi,h,um h n,XE]
theorem aX:∀ (t:Ty) (x:t.den),(t.enc x).length=t.sz
 | .int _,_=>rfl
 | .bool,_=>rfl
 | .str,_=>rfl
 | .fn,_=>rfl
 | .unit,_=>rfl
 | .list _,_=>rfl
 | .arr n e,x=>by simp only [Ty.enc,Ty.sz];exact yH (aX e) n x
 | .pair a b,x=>by simp only [Ty.enc,Qf,Ty.sz,aX a,aX b]
theorem oY:∀ (t:Ty) (x:t.den),(t.enc x).all one=true
 | .int _,_=>rfl
 | .bool,_=>rfl
 | .str,_=>rfl
 | .fn,_=>rfl
 | .unit,_=>rfl
 | .list _,_=>rfl
 | .arr n e,x=>by simp only [Ty.enc];exact um (oY e) n x
 | .pair a b,x=>by simp only [Ty.enc,Xi,oY a,oY b,XE]
theorem jz (t:Ty) (x:t.den):eA (t.pv x)=some (t.enc x):=by cases t<;>rfl
theorem eS:∀ (t:Ty) (x:t.den),(t.enc x).all gj=true
 | .int _,_=>rfl
 | .bool,_=>rfl
 | .str,_=>rfl
 | .fn,_=>rfl
 | .unit,_=>rfl
 | .list _,_=>rfl
 | .arr n e,x=>by simp only [Ty.enc];exact um (eS e) n x
 | .pair a b,x=>by simp only [Ty.enc,Xi,eS a,eS b,XE]
theorem ox {cs:List CV} (h:cs.all gj=true) (k:Nat):cs.any (iN k)=false:=by
 rw [VD];intro c hc;have:=QA.1 h c hc;cases c with
 | own j=>cases this
 | _=>simp [iN]
theorem jD (t:Ty) (x:t.den) (k:Nat):(t.enc x).any (iN k)=false:=ox (eS t x) k
theorem ki {t:Ty} (l:List t.den):(l.flatMap t.enc).all gj=true:=by
 rw [List.all_flatMap,QA];exact fun x _=>eS t x
theorem ko (t:Ty) (x:t.den):closed (t.pv x)=true:=by
 cases t with
 | pair a b=>exact eS (.pair a b) x
 | arr n e=>exact eS (.arr n e) x
 | _=>rfl
theorem Az (t:Ty) (x:t.den) (k:Nat):fA k (t.pv x)=false:=by
 cases t with
 | pair a b=>exact jD (.pair a b) x k
 | arr n e=>exact jD (.arr n e) x k
 | _=>rfl
theorem qk {t:Ty} (h:t.oR=true) (x:t.den):t.pv x = .ag (t.enc x):=by cases t<;>first | rfl | cases h
theorem sJ {t:Ty} (h:t.oR=false) (x:t.den):∃ c,t.enc x=[c]/\t.pv x = .cv c:=by cases t<;>first | exact ⟨_,rfl,rfl⟩ | cases h
theorem di {a b:Ty} {x:a.den} {y:b.den} (h:fC b x=some y):∃ e:a=b,y=e ▸ x:=by
 unfold fC at h;split at h
 ·rename_i e he;cases h;exact ⟨e.down,rfl⟩
 cases h
theorem fF {t:Ty} {v:df} {x:t.den} (h:coe t v=some x):v.pv=some (t.pv x):=by
 cases v with
 | v c z =>
  obtain ⟨rfl,rfl⟩:=di h;rfl
 | nilS =>
  cases t<;>simp only [coe,Qj,reduceCtorEq] at h;subst h;rfl
 | _=>cases h
theorem gZ:∀ (t:Ty) (p:List Nat) (x:t.den) {off:Nat} {c:Ty},l6 t p=some (off,c)->∃ z,rV t p x=some (.v c z)/\((t.enc x).drop off).take c.sz=c.enc z/\off+c.sz<=t.sz
 | t,[],x,off,c,h=>by
  have:off=0/\c=t:=by cases t<;>(simp only [l6,Qj,Vy] at h;exact ⟨h.1.symm,h.2.symm⟩)
  obtain ⟨rfl,rfl⟩:=this;refine ⟨x,by cases c<;>rfl,?_,Q2⟩;rw [V9,Qp (by rw [aX];exact Qn _)]
 | .pair a b,n :: p,x,off,c,h=>by
  cases n with
  | zero =>
   obtain ⟨z,h1,h2,h3⟩:=gZ a p x.1 (show l6 a p=some (off,c) from h);refine ⟨z,h1,?_,by simp only [Ty.sz];omega⟩;rw [<- h2];simp only [Ty.enc];rw [Wa,VX (by simp only [Qq,aX];omega)]
  | succ n =>
   simp only [l6] at h;split at h
   ·rename_i q hq;obtain ⟨o,c'⟩:=q;cases h;obtain ⟨z,h1,h2,h3⟩:=gZ b (n :: p) x.2 hq;refine ⟨z,h1,?_,by simp only [Ty.sz];omega⟩;rw [<- h2];simp only [Ty.enc];congr 1;rw [Wa,QG (by rw [aX];omega),List.nil_append];congr 1;rw [aX];omega
   cases h
 | .int _,_ :: _,_,_,_,h=>by cases h
 | .bool,_ :: _,_,_,_,h=>by cases h
 | .str,_ :: _,_,_,_,h=>by cases h
 | .fn,_ :: _,_,_,_,h=>by cases h
 | .unit,_ :: _,_,_,_,h=>by cases h
 | .list _,_ :: _,_,_,_,h=>by cases h
theorem qY:∀ (t:Ty) (p:List Nat) (x:t.den) {off:Nat} {c d:Ty} {u:d.den} {x':t.den},l6 t p=some (off,c)->uE t p x d u=some x'->c=d/\t.enc x'=V.splice (t.enc x) off (d.enc u)
 | t,[],x,off,c,d,u,x',h,hs=>by
  have e:off=0/\c=t:=by cases t<;>(simp only [l6,Qj,Vy] at h;exact ⟨h.1.symm,h.2.symm⟩)
  obtain ⟨rfl,rfl⟩:=e;have f:fC c u=some x':=by cases c<;>exact hs
  obtain ⟨rfl,rfl⟩:=di f;refine ⟨rfl,?_⟩;unfold V.splice;rw [List.take_zero,List.nil_append,QS,QG (by rw [aX,aX];exact Qn _),Vq]
 | .pair a b,n :: p,x,off,c,d,u,x',h,hs=>by
  cases n with
  | zero =>
   simp only [uE] at hs;split at hs
   ·rename_i z hz;cases hs;obtain ⟨h1,h2⟩:=qY a p x.1 (show l6 a p=some (off,c) from h) hz;obtain ⟨_,_,_,h3⟩:=gZ a p x.1 (show l6 a p=some (off,c) from h);refine ⟨h1,?_⟩;simp only [Ty.enc,h2];unfold V.splice;have e1:(d.enc u).length=c.sz:=by rw [aX,h1]
    rw [VX (by rw [aX];omega),Wa,aX a,e1,show off+c.sz-a.sz=0 by omega,V9];simp only [Vb]
   cases hs
  | succ n =>
   simp only [l6] at h;split at h
   ·rename_i q hq;obtain ⟨o,c'⟩:=q;cases h;simp only [uE] at hs;split at hs
    ·rename_i z hz;cases hs;obtain ⟨h1,h2⟩:=qY b (n :: p) x.2 hq hz;refine ⟨h1,?_⟩;simp only [Ty.enc,h2];unfold V.splice;have e1:(a.enc x.1++b.enc x.2).take (a.sz+o)=a.enc x.1++(b.enc x.2).take o:=by
      rw [WG,Qp (by rw [aX];omega),aX,show a.sz+o-a.sz=o by omega]
     have e2:(a.enc x.1++b.enc x.2).drop (a.sz+o+(d.enc u).length)=(b.enc x.2).drop (o+(d.enc u).length):=by
      rw [Wa,QG (by rw [aX];omega),List.nil_append,aX a,show a.sz+o+(d.enc u).length-a.sz=o+(d.enc u).length by omega]
     rw [e1,e2];simp only [Vb]
    cases hs
   cases h
 | .int _,_ :: _,_,_,_,_,_,_,h,_=>by cases h
 | .bool,_ :: _,_,_,_,_,_,_,h,_=>by cases h
 | .str,_ :: _,_,_,_,_,_,_,h,_=>by cases h
 | .fn,_ :: _,_,_,_,_,_,_,h,_=>by cases h
 | .unit,_ :: _,_,_,_,_,_,_,h,_=>by cases h
 | .list _,_ :: _,_,_,_,_,_,_,h,_=>by cases h
theorem dZ {t:Ty} (l:List t.den):(l.flatMap t.enc).length=l.length*t.sz:=by
 induction l with
 | nil=>simp
 | cons x l ih=>rw [V7,Qf,ih,aX,List.length_cons,Vi];omega
theorem rI {t:Ty}:∀ (l:List t.den) (i:Nat),(l.flatMap t.enc).drop (i*t.sz)=(l.drop i).flatMap t.enc
 | l,0=>by rw [WZ];rfl
 | [],i+1=>Q3
 | x :: l,i+1=>by
  rw [V7,Wa,QG (by rw [aX,Vi];omega),List.nil_append,aX,show (i+1)*t.sz-t.sz=i*t.sz by rw [Vi];omega,rI l i];rfl
theorem nU {t:Ty}:∀ (l:List t.den) (i:Nat),(l.flatMap t.enc).take (i*t.sz)=(l.take i).flatMap t.enc
 | l,0=>by rw [WZ];rfl
 | [],i+1=>Q3
 | x :: l,i+1=>by
  rw [V7,WG,Qp (by rw [aX,Vi];omega),aX,show (i+1)*t.sz-t.sz=i*t.sz by rw [Vi];omega,nU l i];rfl
theorem uj {t:Ty} (l:List t.den) (i:Nat) (h:i<l.length):((l.flatMap t.enc).drop (i*t.sz)).take t.sz=t.enc (l.getD i t.zero):=by
 rw [rI,QD h,V7,VX (by rw [aX];exact Qn _),Qp (by rw [aX];exact Qn _)];simp [Q6,Qh h]
theorem ve {t:Ty} (l:List t.den) (i:Nat) (h:i<l.length) {p:List Nat} {off:Nat} {c:Ty} (hp:l6 t p=some (off,c)):∃ z,rV t p (l.getD i t.zero)=some (.v c z)/\((l.flatMap t.enc).drop (i*t.sz+off)).take c.sz=c.enc z/\i*t.sz+off+c.sz<=(l.flatMap t.enc).length:=by
 obtain ⟨z,h1,h2,h3⟩:=gZ t p (l.getD i t.zero) hp;have hm:i*t.sz+t.sz<=l.length*t.sz:=by
  rw [<- Vi];exact QJ _ h
 refine ⟨z,h1,?_,by rw [dZ];omega⟩;rw [<- h2,<- uj l i h,VM,Wv,W3,QO Q2]
theorem uD (l:List CV) (a n off:Nat) (cs:List CV) (h:off+cs.length<=n) (hl:a+n<=l.length):V.splice l (a+off) cs=l.take a++V.splice ((l.drop a).take n) off cs++l.drop (a+n):=by
 have e1:l.take (a+off)=l.take a++(l.drop a).take off:=List.take_add;have e2:l.drop (a+off+cs.length)=((l.drop a).take n).drop (off+cs.length)++l.drop (a+n):=by
  rw [VM,Wv,show a+(off+cs.length)=a+off+cs.length by omega]
  conv=>lhs;rw [<- VY (n-(off+cs.length)) (l.drop (a+off+cs.length)),Wv]
  rw [show a+off+cs.length+(n-(off+cs.length))=a+n by omega]
 unfold V.splice;rw [e1,e2,W3,QO Q2];simp only [Vb]
theorem EA {t:Ty} (l:List t.den) (i:Nat) (h:i<l.length) {p:List Nat} {off:Nat} {c d:Ty} {u:d.den} {x':t.den} (hp:l6 t p=some (off,c)) (hs:uE t p (l.getD i t.zero) d u=some x'):V.splice (l.flatMap t.enc) (i*t.sz+off) (d.enc u)=(l.set i x').flatMap t.enc:=by
 obtain ⟨h1,h2⟩:=qY t p (l.getD i t.zero) hp hs;obtain ⟨_,_,_,h3⟩:=gZ t p (l.getD i t.zero) hp;have hm:i*t.sz+t.sz<=l.length*t.sz:=by
  rw [<- Vi];exact QJ _ h
 rw [uD _ _ t.sz _ _ (by rw [aX,<- h1];exact h3) (by rw [dZ];exact hm),uj l i h,<- h2,nU,show i*t.sz+t.sz=(i+1)*t.sz by rw [Vi],rI,Xo,Qk h];simp
theorem nW {α:Type} (enc:α->List CV) (z:α):∀ (n:Nat) (l:List α),oZ enc z n l=(eN z n l).flatMap enc
 | 0,_=>rfl
 | n+1,[]=>by simp only [oZ,eN,V7,nW enc z n []]
 | n+1,a :: l=>by simp only [oZ,eN,V7,nW enc z n l]
theorem eH {α:Type} (z:α):∀ (n:Nat) (l:List α),(eN z n l).length=n
 | 0,_=>rfl
 | n+1,[]=>by simp only [eN,List.length_cons,eH z n []]
 | n+1,a :: l=>by simp only [eN,List.length_cons,eH z n l]
theorem Bn {α:Type} (z:α):∀ (n:Nat) (l:List α) (i:Nat),i<n->(eN z n l)[i]?=some (l.getD i z)
 | 0,_,i,h=>absurd h (Ys _)
 | n+1,[],0,h=>rfl
 | n+1,[],i+1,h=>by simpa [eN] using Bn z n [] i Q2
 | n+1,a :: l,0,h=>rfl
 | n+1,a :: l,i+1,h=>by simpa [eN] using Bn z n l i Q2
theorem xT {α:Type} (z u:α):∀ (n:Nat) (l:List α) (i:Nat),i<n->eN z n (C7 z u l i)=(eN z n l).set i u
 | 0,_,i,h=>absurd h (Ys _)
 | n+1,[],0,h=>rfl
 | n+1,[],i+1,h=>by simp only [C7,eN,List.set_cons_succ,xT z u n [] i Q2]
 | n+1,a :: l,0,h=>rfl
 | n+1,a :: l,i+1,h=>by simp only [C7,eN,List.set_cons_succ,xT z u n l i Q2]
theorem zQ {α:Type} (z:α):∀ (n:Nat) (l:List α),l.length=n->eN z n l=l
 | 0,[],_=>rfl
 | n+1,a :: l,h=>by simp only [eN,zQ z n l (by simpa using h)]
 | 0,_ :: _,h=>by simp at h
 | n+1,[],h=>by simp at h
theorem qP {t:Ty} (l:List t.den):(l.flatMap t.enc).all one=true:=by
 rw [List.all_flatMap,QA];exact fun x _=>oY t x
theorem iB {α:Type}:∀ {l:List (Nat×α)} {t:Nat} {x:α},find l t=some x->(t,x)∈l
 | y :: l,t,x,h=>by
  simp only [find] at h;split at h
  ·rename_i hb;cases h;have:t=y.1:=Qt hb;subst this;exact Q7
  exact Qa _ (iB h)
theorem beq_true {a b:Nat} (h:Nat.beq a b=true):a=b:=Qt h
theorem beq_false {a b:Nat} (h:Nat.beq a b=false):a≠b:=Xq h
theorem mem_iff:∀ {l:List Nat} {t:Nat},mem l t=true↔t∈l
 | [],t=>by simp [mem]
 | x :: l,t=>by
  simp only [mem];split
  ·rename_i h;simp [beq_true h]
  rename_i h;rw [mem_iff,Qo];have:=beq_false h;simp [this]
theorem K6 (t:Ty):t.rn*t.rsz=t.sz:=by
 cases t<;>simp only [Ty.rn,Ty.rsz,Ty.sz,Y8]
theorem He {e:Ty} {n:Nat} (l:List e.den) {i:Int} (h:0<n):(((Ty.arr n e).enc l).drop (i.toNat % n*e.sz)).take e.sz=e.enc (uI e.zero n l i)/\i.toNat % n*e.sz+e.sz<=((Ty.arr n e).enc l).length:=by
 have hi:i.toNat % n<n:=X3 _ h;have e1:(Ty.arr n e).enc l=(eN e.zero n l).flatMap e.enc:=nW _ _ _ _;have hm:i.toNat % n*e.sz+e.sz<=n*e.sz:=by
  rw [<- Vi];exact QJ _ hi
 refine ⟨?_,by rw [aX];exact hm⟩;rw [e1,uj _ _ (by rw [eH];exact hi)];congr 1;rw [Q6,Bn _ _ _ _ hi];rfl
theorem IM {e:Ty} {n:Nat} (l:List e.den) {i:Int} (u:e.den) (hc:fC e u=some u) (h:0<n):V.splice ((Ty.arr n e).enc l) (i.toNat % n*e.sz) (e.enc u)=(Ty.arr n e).enc (Nn e.zero n l i u):=by
 have hi:i.toNat % n<n:=X3 _ h;have e1:∀ l:List e.den,(Ty.arr n e).enc l=(eN e.zero n l).flatMap e.enc:=fun l=>nW _ _ _ _;have h1:l6 e []=some (0,e):=by cases e<;>rfl
 have h2:uE e [] ((eN e.zero n l).getD (i.toNat % n) e.zero) e u=some u:=by
  have:uE e [] ((eN e.zero n l).getD (i.toNat % n) e.zero) e u=fC e u:=by cases e<;>rfl
  rw [this];exact hc
 have:=EA (eN e.zero n l) (i.toNat % n) (by rw [eH];exact hi) h1 h2;rw [Nat.add_zero] at this;rw [e1,e1,this,Nn,xT _ _ _ _ _ hi]
theorem cC:∀ fs:List fj,(dP fs).length=pN fs
 | []=>rfl
 | f :: l=>by
  have:f.enc.length=f.sz:=by
   cases f with
   | v t x=>exact aX t x
   | _=>rfl
  simp only [dP,pN,Qf,this,cC l]
theorem Iq (f:fj):f.enc.all one=true:=by
 cases f with
 | v t x=>exact oY t x
 | own k=>rfl
 | hole=>rfl
theorem ED:∀ fs:List fj,(dP fs).all one=true
 | []=>rfl
 | f :: l=>by simp only [dP,Xi,Iq,ED l,XE]
theorem ie (f:fj):f.enc.length=f.sz:=by
 cases f with
 | v t x=>exact aX t x
 | _=>rfl
theorem ui:∀ (t:Ty) (x:t.den) (fs:List fj),iP t x=some fs->dP fs=t.enc x/\pN fs=t.sz/\t.oR=true
 | .unit,_,fs,h=>by simp only [iP,Qj] at h;subst h;exact ⟨rfl,rfl,rfl⟩
 | .pair a b,x,fs,h=>by
  simp only [iP] at h;split at h
  ·rename_i l hl;cases h;obtain ⟨h1,h2,_⟩:=ui b x.2 l hl;exact ⟨by simp only [dP,fj.enc,Ty.enc,h1],by simp only [pN,fj.sz,Ty.sz,h2],rfl⟩
  cases h
 | .int _,_,_,h=>by cases h
 | .bool,_,_,h=>by cases h
 | .str,_,_,h=>by cases h
 | .fn,_,_,h=>by cases h
 | .list _,_,_,h=>by cases h
theorem xU:∀ (t:Ty) (fs:List fj) (y:t.den),DJ t fs=some y->dP fs=t.enc y/\pN fs=t.sz/\t.oR=true
 | .unit,[],y,h=>⟨rfl,rfl,rfl⟩
 | .unit,_ :: _,y,h=>by cases h
 | .pair a b,[],y,h=>by cases h
 | .pair a b,.v c x :: l,y,h=>by
  simp only [DJ] at h;split at h
  ·rename_i y1 z1 h1 h2;cases h;obtain ⟨rfl,rfl⟩:=di h1;obtain ⟨g1,g2,_⟩:=xU b l z1 h2;exact ⟨by simp only [dP,fj.enc,Ty.enc,g1],by simp only [pN,fj.sz,Ty.sz,g2],rfl⟩
  cases h
 | .pair a b,.own _ :: _,y,h=>by cases h
 | .pair a b,.hole :: _,y,h=>by cases h
 | .int _,[],_,h=>by cases h
 | .int _,_ :: _,_,h=>by cases h
 | .bool,[],_,h=>by cases h
 | .bool,_ :: _,_,h=>by cases h
 | .str,[],_,h=>by cases h
 | .str,_ :: _,_,h=>by cases h
 | .fn,[],_,h=>by cases h
 | .fn,_ :: _,_,h=>by cases h
 | .list _,[],_,h=>by cases h
 | .list _,_ :: _,_,h=>by cases h
theorem pc:∀ (fs:List fj) (i o:Nat) (f:fj),nZ fs i=some (o,f)->((dP fs).drop o).take f.sz=f.enc/\o+f.sz<=pN fs/\∀ g:fj,g.sz=f.sz->dP (gP fs i g)=V.splice (dP fs) o g.enc/\pN (gP fs i g)=pN fs
 | [],i,o,f,h=>by cases h
 | f0 :: l,0,o,f,h=>by
  simp only [nZ,Qj,Vy] at h;obtain ⟨rfl,rfl⟩:=h;refine ⟨?_,by simp only [pN];omega,fun g hg=>⟨?_,by simp only [gP,pN,hg]⟩⟩
  ·rw [V9,dP,VX (by rw [ie];exact Qn _),Qp (by rw [ie];exact Qn _)]
  simp only [gP,dP,V.splice,List.take_zero,List.nil_append,QS];rw [Wa,ie g,ie f0,hg,XP,V9,QG (by rw [ie];exact Qn _),List.nil_append]
 | f0 :: l,i+1,o,f,h=>by
  simp only [nZ] at h;split at h
  ·rename_i x hx;obtain ⟨o1,f1⟩:=x;cases h;obtain ⟨h1,h2,h3⟩:=pc l i o1 f1 hx;refine ⟨?_,by simp only [pN];omega,fun g hg=>?_⟩
   ·rw [dP,Wa,QG (by rw [ie];omega),List.nil_append,ie,show f0.sz+o1-f0.sz=o1 by omega];exact h1
   obtain ⟨g1,g2⟩:=h3 g hg;refine ⟨?_,by simp only [gP,pN,g2]⟩;simp only [gP,dP,g1,V.splice];have e1:(f0.enc++dP l).take (f0.sz+o1)=f0.enc++(dP l).take o1:=by
    rw [WG,Qp (by rw [ie];omega),ie,show f0.sz+o1-f0.sz=o1 by omega]
   have e2:(f0.enc++dP l).drop (f0.sz+o1+g.enc.length)=(dP l).drop (o1+g.enc.length):=by
    rw [Wa,QG (by rw [ie];omega),List.nil_append];congr 1;rw [ie f0];omega
   rw [e1,e2];simp only [Vb]
  cases h
theorem Ah {fs:List fj} {p:List Nat} {off:Nat} {v:df} (h:getF fs p=some (off,v)):∃ i p',p=i :: p'/\((∃ o t x o' c,nZ fs i=some (o,.v t x)/\l6 t p'=some (o',c)/\rV t p' x=some v/\off=o+o')∨(∃ k,nZ fs i=some (off,.own k)/\p'=[]/\v = .own k)):=by
 cases p with
 | nil=>cases h
 | cons i p' =>
  refine ⟨i,p',rfl,?_⟩;simp only [getF] at h;split at h
  ·rename_i o t x hat;split at h
   ·rename_i o' c v' h1 h2;cases h;exact .inl ⟨o,t,x,o',c,hat,h1,h2,rfl⟩
   cases h
  ·rename_i o k hat;split at h
   ·cases h;exact .inr ⟨k,hat,rfl,rfl⟩
   cases h
  cases h
theorem gG:∀ (fs:List fj) (k:Nat),(dP fs).any (iN k)=true↔k∈iX fs
 | [],k=>by simp [dP,iX]
 | .v t x :: l,k=>by simp only [dP,fj.enc,Yt,jD,XD,iX];exact gG l k
 | .hole :: l,k=>by simp only [dP,fj.enc,Yt,List.any_cons,iN,List.any_nil,XD,iX];exact gG l k
 | .own j :: l,k=>by
  simp only [dP,fj.enc,Yt,List.any_cons,List.any_nil,Bool.or_false,Yr,iX,Qo,gG l k];rw [qh];constructor
  ·rintro (h | h)
   ·exact .inl h.symm
   exact .inr h
  rintro (h | h)
  ·exact .inl h.symm
  exact .inr h
theorem zV {fs:List fj} {k:Nat} (h:mem (iX fs) k=false):(dP fs).any (iN k)=false:=by
 cases hc:(dP fs).any (iN k) with
 | false=>rfl
 | true =>
  have:=mem_iff.2 ((gG fs k).1 hc);rw [h] at this;cases this
theorem tZ {g:fj->fj} (hg:∀ f,(g f).sz=f.sz):∀ fs:List fj,pN (ub g fs)=pN fs
 | []=>rfl
 | f :: l=>by simp only [ub,pN,hg,tZ hg l]
theorem ua {g:fj->fj} {m:CV->CV} (hg:∀ f,(g f).enc=f.enc.map m):∀ fs:List fj,dP (ub g fs)=(dP fs).map m
 | []=>rfl
 | f :: l=>by simp only [ub,dP,X6,hg,ua hg l]
def vf:TypeDesc->Ty->Bool
 | .int k,.int k'=>(qH k k').isSome
 | .bool,.bool=>true
 | .string,.str=>true
 | .func ..,.fn=>true
 | .slice _,.list _=>true
 | .struct _,.pair _ _=>true
 | .struct _,.unit=>true
 | .array n _,.arr m _=>Nat.beq n m
 | _,_=>false
def kindOk (P:Program) (t:TypeId) (c:Ty):Bool:=match P.underlying t with
 | some d=>vf d c
 | none=>false
def AN (P:Program) (t:TypeId) (c:Ty):Bool:=match P.info? t with
 | some inf=>Nat.beq inf.size c.sz
 | none=>false
def ji (P:Program):List Field->Ty->Nat->Bool
 | [],.unit,_=>true
 | f :: fs,.pair a b,off=>Nat.beq f.offset off&&kindOk P f.type a&&AN P f.type a&&ji P fs b (off+a.sz)
 | _,_,_=>false
def tw (f:List Value->Option (List Value)):Nat->List Value->Option (List Value)
 | 0,l=>some l
 | n+1,l=>match f l with
  | some l'=>tw f n l'
  | none=>none
def kO:Ty->List Value->Option (List Value)
 | .unit,l=>some l
 | .pair a b,l=>match kO a l with
  | some l'=>kO b l'
  | none=>none
 | .arr n e,l=>tw (kO e) n l
 | c,v :: l=>match c,v with
  | .int k,.int k' n=>match qH k k',n with
   | some _,.ofNat 0=>some l
   | _,_=>none
  | .bool,.bool b=>match b with
   | false=>some l
   | true=>none
  | .str,.string s=>match s.size with
   | 0=>some l
   | _=>none
  | .list _,.slice none 0 0=>some l
  | _,_=>none
 | _,[]=>none
def zOk (c:Ty) (z:Value):Bool:=match kO c z.cells.toList with
 | some []=>match z,c.oR with
  | .agg _,true=>true
  | .agg _,false=>false
  | _,true=>false
  | _,false=>true
 | _=>false
def tyOk (P:Program) (x:Nat×Ty):Bool:=match P.info? x.1 with
 | none=>false
 | some inf=>Nat.beq inf.size x.2.sz&&(Nat.ble x.2.rn 16777216&&kindOk P x.1 x.2)&&(match P.underlying x.1 with
  | some (.struct fs)=>ji P fs.toList x.2 0
  | _=>true)&&(!x.2.plain||(match inf.zero with
  | some z=>zOk x.2 z
  | none=>false))
def elOk (P:Program) (ty:List (Nat×Ty)) (x:Nat×Nat):Bool:=(match P.underlying x.1 with
 | some (.slice e)=>Nat.beq e x.2
 | _=>false)&&(match find ty x.1,find ty x.2 with
 | some (.list c),some c'=>(jE c c').isSome
 | _,_=>false)
def byOk (P:Program) (x:Nat×Nat):Bool:=match P.info? x.1 with
 | some inf=>Nat.beq inf.bytes x.2&&Nat.ble 1 x.2
 | none=>false
def arOk (P:Program) (ty:List (Nat×Ty)) (x:Nat×(Nat×Nat)):Bool:=(match P.underlying x.1 with
 | some (.array n e)=>Nat.beq n x.2.1&&Nat.beq e x.2.2
 | _=>false)&&(match find ty x.1,find ty x.2.2 with
 | some (.arr n c),some c'=>Nat.beq n x.2.1&&(jE c c').isSome
 | _,_=>false)
def mpOk (P:Program) (t:Nat):Bool:=match P.underlying t with
 | some (.map k e)=>(match P.underlying k with
  | some .string=>true
  | _=>false)&&(match P.info? e with
  | some inf=>match inf.zero with
   | some (.int .i64 n)=>match n with
    | .ofNat 0=>true
    | _=>false
   | _=>false
  | none=>false)
 | _=>false
def cN (T:gU):Bool:=T.ty.all (tyOk T.P)&&T.el.all (elOk T.P T.ty)&&(T.by_.all (byOk T.P)&&T.ar.all (arOk T.P T.ty)&&T.mp_.all (mpOk T.P))
theorem Cr {α:Type} {f:List Value->Option (List Value)} {enc:α->List CV} {z:α} (hf:∀ l r,f l=some r->∃ pre,l=pre++r/\pre.map ij=enc z):∀ (n:Nat) (l r:List Value),tw f n l=some r->∃ pre,l=pre++r/\pre.map ij=oZ enc z n (List.replicate n z)
 | 0,l,r,h=>by
  cases h;exact ⟨[],rfl,rfl⟩
 | n+1,l,r,h=>by
  rw [tw] at h;split at h
  ·rename_i l' hl;obtain ⟨p,h1,h2⟩:=hf l l' hl;obtain ⟨q,h3,h4⟩:=Cr hf n l' r h;exact ⟨p++q,by rw [h1,h3,Vb],by rw [X6,h2,h4,List.replicate_succ];rfl⟩
  cases h
theorem wC:∀ (c:Ty) (l r:List Value),kO c l=some r->∃ pre,l=pre++r/\pre.map ij=c.enc c.zero
 | .unit,l,r,h=>by
  have:l=r:=by cases l<;>(simp only [kO,Qj] at h;exact h)
  exact ⟨[],by rw [this];rfl,rfl⟩
 | .pair a b,l,r,h=>by
  have h':(match kO a l with | some l'=>kO b l' | none=>none)=some r:=by cases l<;>exact h
  split at h'
  ·rename_i l' hl;obtain ⟨p,h1,h2⟩:=wC a l l' hl;obtain ⟨q,h3,h4⟩:=wC b l' r h';exact ⟨p++q,by rw [h1,h3,Vb],by rw [X6,h2,h4];rfl⟩
  cases h'
 | .arr n e,l,r,h=>by
  have h':tw (kO e) n l=some r:=by cases l<;>exact h
  exact Cr (wC e) n l r h'
 | .int k,[],r,h=>by cases h
 | .int k,v :: l,r,h=>by
  cases v<;>simp only [kO,reduceCtorEq] at h;split at h
  ·rename_i q _;cases h;refine ⟨[_],rfl,?_⟩;have e:=q.down;subst e;rfl
  cases h
 | .bool,[],r,h=>by cases h
 | .bool,v :: l,r,h=>by
  cases v<;>simp only [kO,reduceCtorEq] at h;split at h
  ·cases h;exact ⟨[_],rfl,rfl⟩
  cases h
 | .str,[],r,h=>by cases h
 | .str,v :: l,r,h=>by
  cases v<;>simp only [kO,reduceCtorEq] at h;rename_i s;split at h
  ·rename_i h1;cases h;refine ⟨[_],rfl,?_⟩;have:s=(⟨#[]⟩:ByteArray):=by
    obtain ⟨d⟩:=s;congr;exact Array.eq_empty_of_size_eq_zero h1
   subst this;rfl
  cases h
 | .fn,[],r,h=>by cases h
 | .fn,v :: l,r,h=>by cases v<;>cases h
 | .list e,[],r,h=>by cases h
 | .list e,v :: l,r,h=>by
  cases v with
  | slice a n c =>
   cases a with
   | some a=>cases h
   | none=>cases n with
    | succ n=>cases h
    | zero=>cases c with
     | succ c=>cases h
     | zero=>cases h;exact ⟨[_],rfl,rfl⟩
  | _=>cases h
structure vY (P:Program) (t:TypeId) (c:Ty):Prop where
 info:∃ inf,P.info? t=some inf/\inf.size=c.sz/\(c.plain=true->∃ z,inf.zero=some z/\z.cells.toList.map ij=c.enc c.zero/\(c.oR=false->z.cells = #[z]/\E9 z=c.pv c.zero)/\(c.oR=true->∃ vs,z = .agg vs))
 kind:kindOk P t c=true
 zi:c.rn<=maxLen
 fields:∀ fs,P.underlying t=some (.struct fs)->ji P fs.toList c 0=true
theorem gf {T:gU} (hT:cN T=true) {t:Nat} {c:Ty} (h:find T.ty t=some c):vY T.P t c:=by
 simp only [cN,Qm,QA] at hT;have h1:=hT.1.1 _ (iB h);unfold tyOk at h1;split at h1
 ·cases h1
 rename_i inf hi;simp only [Qm] at h1;obtain ⟨⟨⟨a1,a0,a2⟩,a3⟩,a4⟩:=h1;refine ⟨⟨inf,hi,beq_true a1,fun hp=>?_⟩,a2,Qu (Qe a0) (by simp only [maxLen];omega),fun fs hf=>?_⟩
 ·simp only [hp,Bool.not_true,XD] at a4;split at a4
  ·rename_i z hz;unfold zOk at a4;split at a4
   ·rename_i hzo;obtain ⟨b,e1,e2⟩:=wC _ _ _ hzo;rw [Vq] at e1;refine ⟨z,hz,by rw [e1];exact e2,fun hag=>?_,fun hag=>?_⟩
    ·have a:z.cells = #[z]->E9 z = .cv (ij z)->z.cells = #[z]/\E9 z=c.pv c.zero:=by
      intro k1 k2;refine ⟨k1,?_⟩;rw [k2];have:[ij z]=c.enc c.zero:=by rw [<- e2,<- e1,k1];rfl
      obtain ⟨cc,h1,h2⟩:=sJ hag c.zero;rw [h1] at this;cases this;exact h2.symm
     rw [hag] at a4;cases z<;>first | (simp at a4;done) | exact a rfl rfl
    rw [hag] at a4;cases z<;>first | (simp at a4;done) | exact ⟨_,rfl⟩
   cases a4
  cases a4
 rw [hf] at a3;exact a3
theorem vY.Kl {P:Program} {t:TypeId} {c:Ty} (h:vY P t c):∃ d,P.underlying t=some d/\vf d c=true:=by
 have:=h.kind;unfold kindOk at this;split at this
 ·rename_i d hd;exact ⟨d,hd,this⟩
 cases this
theorem lW {d:TypeDesc} {c:Ty} (h:vf d c=true) (hc:c.oR=false):V.plain d=true:=by
 cases d<;>first | rfl | (cases c<;>first | (cases h;done) | (cases hc;done))
def Ty.JO:Ty->Bool
 | .pair _ _=>true
 | .unit=>true
 | _=>false
theorem BT {d:TypeDesc} {c:Ty} (h:vf d c=true) (hc:c.oR=true):(∃ fs,d = .struct fs)∨∃ n e,d = .array n e:=by
 cases c<;>first | (cases hc;done) | (cases d<;>first | (cases h;done) | exact .inl ⟨_,rfl⟩ | exact .inr ⟨_,_,rfl⟩)
theorem wS {d:TypeDesc} {c:Ty} (h:vf d c=true) (hc:c.JO=true):∃ fs,d = .struct fs:=by
 cases c<;>first | (cases hc;done) | (cases d<;>first | (cases h;done) | exact ⟨_,rfl⟩)
theorem IL {c d:Ty} {i fo:Nat} (h:l6 c [i]=some (fo,d)):c.JO=true:=by cases c<;>first | rfl | cases h
theorem st_ag {c:Ty} (h:c.JO=true):c.oR=true:=by cases c<;>first | rfl | cases h
theorem N4 {a b:IntKind} {h:PLift (a=b)} (_:qH a b=some h):a=b:=h.down
theorem vY.int {P:Program} {t:TypeId} {k:IntKind} (h:vY P t (.int k)):P.underlying t=some (.int k):=by
 obtain ⟨d,h1,h2⟩:=h.Kl;rw [h1];cases d<;>first | (cases h2;done) | skip
 rename_i k';simp only [vf] at h2;cases hk:qH k' k with
 | none=>simp [hk] at h2
 | some q=>rw [q.down]
theorem vY.list {P:Program} {t:TypeId} {c:Ty} (h:vY P t (.list c)):∃ e,P.underlying t=some (.slice e):=by
 obtain ⟨d,h1,h2⟩:=h.Kl;cases d<;>first | (cases h2;done) | exact ⟨_,h1⟩
theorem vY.str {P:Program} {t:TypeId} (h:vY P t .str):P.underlying t=some .string:=by
 obtain ⟨d,h1,h2⟩:=h.Kl;cases d<;>first | (cases h2;done) | exact h1
theorem vY.bool {P:Program} {t:TypeId} (h:vY P t .bool):P.underlying t=some .bool:=by
 obtain ⟨d,h1,h2⟩:=h.Kl;cases d<;>first | (cases h2;done) | exact h1
theorem vY.st {P:Program} {t:TypeId} {c:Ty} (h:vY P t c) (hc:c.JO=true):∃ fs,P.underlying t=some (.struct fs)/\ji P fs.toList c 0=true:=by
 obtain ⟨d,h1,h2⟩:=h.Kl;obtain ⟨fs,rfl⟩:=wS h2 hc;exact ⟨fs,h1,h.fields _ h1⟩
theorem el_m {T:gU} (hT:cN T=true) {t e:Nat} (h:find T.el t=some e):T.P.underlying t=some (.slice e)/\∃ c,find T.ty t=some (.list c)/\find T.ty e=some c:=by
 simp only [cN,Qm,QA] at hT;have h1:=hT.1.2 _ (iB h);unfold elOk at h1;simp only [Qm] at h1;obtain ⟨a1,a2⟩:=h1;split at a1
 ·rename_i e' he;rw [beq_true a1] at he;refine ⟨he,?_⟩;split at a2
  ·rename_i c c' h2 h3;cases hk:jE c c' with
   | none=>simp [hk] at a2
   | some q=>exact ⟨c,h2,by rw [q.down];exact h3⟩
  cases a2
 cases a1
theorem ar_m {T:gU} (hT:cN T=true) {t n e:Nat} (h:find T.ar t=some (n,e)):T.P.underlying t=some (.array n e)/\∃ c,find T.ty t=some (.arr n c)/\find T.ty e=some c:=by
 simp only [cN,Qm,QA] at hT;have h1:=hT.2.1.2 _ (iB h);unfold arOk at h1;simp only [Qm] at h1;obtain ⟨a1,a2⟩:=h1;split at a1
 ·rename_i n' e' he;rw [Qm] at a1;rw [beq_true a1.1,beq_true a1.2] at he;refine ⟨he,?_⟩;split at a2
  ·rename_i m c c' h2 h3;rw [Qm] at a2;rw [beq_true a2.1] at h2;cases hk:jE c c' with
   | none=>simp [hk] at a2
   | some q=>exact ⟨c,h2,by rw [q.down];exact h3⟩
  cases a2
 cases a1
theorem OD {T:gU} (hT:cN T=true) {e b:Nat} (h:find T.by_ e=some b):(∃ inf,T.P.info? e=some inf/\inf.bytes=b)/\1<=b:=by
 simp only [cN,Qm,QA] at hT;have h1:=hT.2.1.1 _ (iB h);unfold byOk at h1;split at h1
 ·rename_i inf hi;rw [Qm] at h1;exact ⟨⟨inf,hi,beq_true h1.1⟩,Qe h1.2⟩
 cases h1
theorem mp_m {T:gU} (hT:cN T=true) {t:Nat} (h:N7 T t=true):∃ k e inf,T.P.underlying t=some (.map k e)/\T.P.underlying k=some .string/\T.P.info? e=some inf/\inf.zero=some (.int .i64 0):=by
 simp only [cN,Qm,QA] at hT;have h1:=hT.2.2 _ (mem_iff.1 h);unfold mpOk at h1;split at h1
 ·rename_i k e hu;rw [Qm] at h1;obtain ⟨a1,a2⟩:=h1;split at a1
  ·rename_i hk;split at a2
   ·rename_i inf hi;split at a2
    ·rename_i n hz;split at a2
     ·exact ⟨k,e,inf,hu,hk,hi,hz⟩
     cases a2
    cases a2
   cases a2
  cases a1
 cases h1
theorem rL {P:Program}:∀ (fs:List Field) (c:Ty) (off:Nat) {i fo:Nat} {d:Ty},ji P fs c off=true->l6 c [i]=some (fo,d)->∃ f,fs[i]?=some f/\f.offset=off+fo/\kindOk P f.type d=true/\∃ inf,P.info? f.type=some inf/\inf.size=d.sz
 | [],.unit,off,i,fo,d,h,ha=>by cases ha
 | f :: fs,.pair a b,off,i,fo,d,h,ha=>by
  simp only [ji,Qm] at h;obtain ⟨⟨⟨h1,h2⟩,h3⟩,h4⟩:=h;cases i with
  | zero =>
   have e:fo=0/\d=a:=by cases a<;>(simp only [l6,Qj,Vy] at ha;exact ⟨ha.1.symm,ha.2.symm⟩)
   obtain ⟨rfl,rfl⟩:=e;unfold AN at h3;split at h3
   ·rename_i inf hi;exact ⟨f,rfl,beq_true h1,h2,inf,hi,beq_true h3⟩
   cases h3
  | succ i =>
   simp only [l6] at ha;split at ha
   ·rename_i q hq;cases ha;obtain ⟨f',g1,g2,g3⟩:=rL fs b (off+a.sz) h4 hq;exact ⟨f',g1,by rw [g2];omega,g3⟩
   cases ha
 | [],.pair _ _,_,_,_,_,h,_=>by cases h
 | [],.int _,_,_,_,_,h,_=>by cases h
 | [],.bool,_,_,_,_,h,_=>by cases h
 | [],.str,_,_,_,_,h,_=>by cases h
 | [],.fn,_,_,_,_,h,_=>by cases h
 | [],.list _,_,_,_,_,h,_=>by cases h
 | _ :: _,.unit,_,_,_,_,h,_=>by cases h
 | _ :: _,.int _,_,_,_,_,h,_=>by cases h
 | _ :: _,.bool,_,_,_,_,h,_=>by cases h
 | _ :: _,.str,_,_,_,_,h,_=>by cases h
 | _ :: _,.fn,_,_,_,_,h,_=>by cases h
 | _ :: _,.list _,_,_,_,_,h,_=>by cases h
theorem mZ {P:Program}:∀ (fs:List Field) (c:Ty) (off:Nat),ji P fs c off=true->∃ pl:List (Nat×Nat),fs.mapM (fun f=>(P.info? f.type).map fun i=>(f.offset,i.size))=some pl/\∀ i fo d,l6 c [i]=some (fo,d)->pl[i]?=some (off+fo,d.sz)
 | [],.unit,off,h=>⟨[],rfl,fun i fo d ha=>by cases ha⟩
 | f :: fs,.pair a b,off,h=>by
  simp only [ji,Qm] at h;obtain ⟨⟨⟨h1,h2⟩,h3⟩,h4⟩:=h;obtain ⟨pl,g1,g2⟩:=mZ fs b (off+a.sz) h4;unfold AN at h3;split at h3
  ·rename_i inf hi;refine ⟨(off,a.sz) :: pl,?_,fun i fo d ha=>?_⟩
   ·rw [List.mapM_cons,hi];simp only [Option.map_some,Option.bind_eq_bind,Option.bind_some,g1,beq_true h1,beq_true h3,Option.pure_def]
   cases i with
   | zero =>
    have e:fo=0/\d=a:=by cases a<;>(simp only [l6,Qj,Vy] at ha;exact ⟨ha.1.symm,ha.2.symm⟩)
    obtain ⟨rfl,rfl⟩:=e;rfl
   | succ i =>
    simp only [l6] at ha;split at ha
    ·rename_i q hq;cases ha;have:=g2 i _ _ hq;rw [List.getElem?_cons_succ,this];congr 2;omega
    cases ha
  cases h3
 | [],.pair _ _,_,h=>by cases h
 | [],.int _,_,h=>by cases h
 | [],.bool,_,h=>by cases h
 | [],.str,_,h=>by cases h
 | [],.fn,_,h=>by cases h
 | [],.list _,_,h=>by cases h
 | _ :: _,.unit,_,h=>by cases h
 | _ :: _,.int _,_,h=>by cases h
 | _ :: _,.bool,_,h=>by cases h
 | _ :: _,.str,_,h=>by cases h
 | _ :: _,.fn,_,h=>by cases h
 | _ :: _,.list _,_,h=>by cases h
def rowAg (x:Option Row):Option bZ->Prop
 | none=>x=none
 | some (.arr e t l)=>x=some (bZ.arr e t l).row
 | some (.box e t y)=>x=some (bZ.box e t y).row
 | some (.obox e fs)=>∃ d,x=some d/\j4 (bZ.obox e fs).row d
structure cK (W:St) (rd:Nat->Option df) (rr:Nat->Option (Option bZ)):Prop where
 env:∀ t v p,rd t=some v->v.pv=some p->W.env t=some p
 rows:∀ k q,rr k=some q->rowAg (W.rows k) q
def qb (W:St):Option (Nat×bZ)->St
 | none=>W
 | some x=>setRow W x.1 x.2.row
def gQ (W:St) (d:Option Nat) (v:df):St:=match d with
 | none=>W
 | some d=>match v.pv with
  | some p=>put W (some d) p
  | none=>drop W (some d)
section
variable {T:gU} {X:Ctx} {W:St} {o:Oper} {rd:Nat->Option df} {rr:Nat->Option (Option bZ)}
theorem NJ {c:Value} {p:PV} (h:(BW c).pv=some p):p=E9 c:=by
 unfold BW at h;split at h
 ·cases h;rfl
 ·cases h;rfl
 ·cases h;rfl
 ·cases h;rfl
 cases h
theorem cK.ev (hA:cK W rd rr) {x:Operand} {v:df} {p:PV} (h:gA rd x=some v) (hp:v.pv=some p):V.ev W x=some p:=by
 cases x with
 | tmp t=>exact hA.env t v p h hp
 | const c =>
  simp only [gA,Qj] at h;subst h;rw [NJ hp];rfl
 | func f =>
  simp only [gA,Qj] at h;subst h;cases hp;rfl
 | global g=>cases h
theorem cK.pR (hA:cK W rd rr) {x:Operand} {t:Ty} {y:t.den} (h:gA rd x=some (.v t y)):V.ev W x=some (t.pv y):=hA.ev h rfl
theorem cK.int (hA:cK W rd rr) {x:Operand} {n:Int} (h:intOf rd x=some n):∃ k,V.ev W x=some (.int k n):=by
 unfold intOf at h;split at h
 ·rename_i k n' he;cases h;exact ⟨k,hA.pR he⟩
 cases h
theorem xF {P:Program} {p:PV} {v:df} (h:Pure P X o W p) (hv:v.pv=some p) (hd:dm X o.dst):cf P X o W (gQ W o.dst v):=by
 have:=h.to hd;unfold gQ;cases hdd:o.dst with
 | none=>rw [hdd] at this;exact this
 | some d=>rw [hdd] at this;rw [hv];exact this
theorem zl (k:IntKind) (n:Int):wr k n=k.wrap n:=by
 unfold wr;split
 ·exact (BH n).symm
 ·exact (IntKind.wrap_u32 n).symm
 ·exact (IntKind.wrap_u8 n).symm
 rfl
theorem KG {y:Operand} {k:IntKind} {b:Int} (h:sure y=true) (he:gA rd y=some (.v (.int k) b)):0<b:=by
 unfold sure at h;split at h
 ·rename_i k' n;simp only [gA,BW,Qj] at he;cases he;split at h
  ·rename_i m;show (0:Int)<Int.ofNat (m+1);exact Int.natCast_pos.2 (Nat.succ_pos _)
  cases h
 cases h
theorem vB {P:Program} {op:BinOp} {t t':TypeId} {x y:Operand} {k k':IntKind} {a b:Int} {R:E6} (ho:o.op = .binOp op t x y t') (hx:V.ev W x=some (.int k a)) (hy:V.ev W y=some (.int k' b)) (hk:k=k'∨op = .shl∨op = .shr) (s:Bool) (hs:s=true->0<b) (h:MG op k a b s=some R) (hc:∀ c,R.c=some c->c.p) :
 R.r=none/\∃ p,R.v.pv=some p/\Pure P X o W p:=by
 have d:∀ (w v:Value),JQ op k a b=some w->w=v->Pure P X o W (.cv (.lit v)):=fun w v f e=>by subst e;exact e8 ho hx hy hk f
 cases op<;>simp only [MG] at h
 case add=>cases h;exact ⟨rfl,_,rfl,d _ _ rfl (by rw [zl])⟩
 case sub=>cases h;exact ⟨rfl,_,rfl,d _ _ rfl (by rw [zl])⟩
 case mul=>cases h;exact ⟨rfl,_,rfl,d _ _ rfl (by rw [zl])⟩
 case quo =>
  have h0:¬ b=0/\R=⟨R.c,.v (.int k) (wr k (a.tdiv b)),none⟩:=by
   cases s with
   | true=>cases h;exact ⟨by have:=hs rfl;omega,rfl⟩
   | false=>cases h;exact ⟨hc _ rfl,rfl⟩
  rw [h0.2];exact ⟨rfl,_,rfl,d (.int k (k.wrap (a.tdiv b))) _ (by simp only [JQ,Qc h0.1]) (by rw [zl])⟩
 case rem =>
  have h0:¬ b=0/\R=⟨R.c,.v (.int k) (a.tmod b),none⟩:=by
   cases s with
   | true=>cases h;exact ⟨by have:=hs rfl;omega,rfl⟩
   | false=>cases h;exact ⟨hc _ rfl,rfl⟩
  rw [h0.2];exact ⟨rfl,_,rfl,d (.int k (a.tmod b)) _ (by simp only [JQ,Qc h0.1]) rfl⟩
 case shl =>
  have h0:0<=b/\R=⟨R.c,.v (.int k) (shl k a b),none⟩:=by
   cases s with
   | true=>cases h;exact ⟨by have:=hs rfl;omega,rfl⟩
   | false=>cases h;exact ⟨hc _ rfl,rfl⟩
  rw [h0.2];exact ⟨rfl,_,rfl,shlV ho hx hy h0.1⟩
 case shr =>
  have h0:0<=b/\R=⟨R.c,.v (.int k) (shr k a b),none⟩:=by
   cases s with
   | true=>cases h;exact ⟨by have:=hs rfl;omega,rfl⟩
   | false=>cases h;exact ⟨hc _ rfl,rfl⟩
  rw [h0.2];exact ⟨rfl,_,rfl,shrV ho hx hy h0.1⟩
 all_goals (cases h;exact ⟨rfl,_,rfl,d _ _ rfl rfl⟩)
theorem ur (hA:cK W rd rr) {t:Ty} {pl:List (Nat×Nat)} (hpl:∀ i fo d,l6 t [i]=some (fo,d)->pl[i]?=some (fo,d.sz)):∀ (ps:List (Nat×Operand)) (x x':t.den),vz rd t ps x=some x'->∃ qs,parts W ps=some qs/\iC (pl.toArray[·]?) (t.enc x) qs=some (t.enc x')
 | [],x,x',h=>by simp only [vz,Qj] at h;subst h;exact ⟨[],rfl,rfl⟩
 | (i,y) :: ps,x,x',h=>by
  simp only [vz] at h;split at h
  ·rename_i v fo c hv hat;split at h
   ·rename_i z hz;split at h
    ·rename_i x2 hx2;obtain ⟨qs,h1,h2⟩:=ur hA hpl ps x2 x' h;obtain ⟨_,he⟩:=qY t [i] x hat hx2;obtain ⟨_,_,_,hb⟩:=gZ t [i] x hat;refine ⟨(i,c.enc z) :: qs,?_,?_⟩
     ·simp only [parts,hA.ev hv (fF hz),Option.bind_some,jz,h1]
     simp only [iC,X7,hpl i fo c hat];rw [Qc (by rw [aX,aX];omega)];have e:(t.enc x).take fo++c.enc z++(t.enc x).drop (fo+(c.enc z).length)=t.enc x2:=by rw [he];simp only [V.splice,Vb]
     rw [e];simpa only [X7] using h2
    cases h
   cases h
  cases h
theorem uu (hA:cK W rd rr) {t:Ty}:∀ (ps:List (Nat×Operand)) (n:Nat) (l:List t.den) (A B:List CV),vA rd t n ps=some l->A.length=n*t.sz->B.length=ps.length*t.sz->l.length=ps.length/\∃ qs,parts W ps=some qs/\iC (fun i=>some (i*t.sz,t.sz)) (A++B) qs=some (A++l.flatMap t.enc)
 | [],n,l,A,B,h,hA',hB=>by
  simp only [vA,Qj] at h;subst h;have:B=[]:=QY (by simpa using hB);subst this;exact ⟨rfl,[],rfl,rfl⟩
 | (i,y) :: ps,n,l,A,B,h,hA',hB=>by
  simp only [vA] at h;split at h
  ·rename_i v hn hv;split at h
   ·rename_i x xs hx hxs;cases h;have hi:n=i:=beq_true hn;subst hi;rw [List.length_cons,Vi] at hB;obtain ⟨g0,qs,g1,g2⟩:=uu hA ps (n+1) xs (A++t.enc x) (B.drop t.sz) hxs (by rw [Qf,hA',aX,Vi]) (by rw [Qq,hB];omega);refine ⟨by simp [g0],(n,t.enc x) :: qs,?_,?_⟩
    ·simp only [parts,hA.ev hv (fF hx),Option.bind_some,jz,g1]
    simp only [iC];rw [Qc (by rw [aX,Qf,hA',hB];omega)];rw [VX (by rw [hA'];exact Qn _),Qp (by rw [hA'];exact Qn _),Wa,QG (by rw [aX,hA'];omega),List.nil_append,aX,hA',show n*t.sz+t.sz-n*t.sz=t.sz by omega,g2,V7,Vb]
   cases h
  cases h
theorem nX (hT:cN T=true) {t e:TypeId} {c:Ty} (h:BQ T t=some (e,c)):T.P.underlying t=some (.slice e)/\vY T.P e c/\find T.ty t=some (.list c):=by
 unfold BQ at h;split at h
 ·rename_i e' c' h1 h2;cases h;obtain ⟨g1,c',g2,g3⟩:=el_m hT h1;rw [h2] at g2;cases g2;exact ⟨g1,gf hT g3,h2⟩
 cases h
theorem hJ {c:Ty} (h:gO c=true):c.plain=true/\0<c.sz:=by
 simp only [gO,Qm] at h;exact ⟨h.1,Qe h.2⟩
theorem jr {P:Program} {e:TypeId} {c:Ty} (hM:vY P e c) (hs:gO c=true):∃ inf z,P.info? e=some inf/\inf.zero=some z/\inf.size=c.sz/\z.cells.size=c.sz/\z.cells.toList.map ij=c.enc c.zero:=by
 obtain ⟨inf,h1,h2,h3⟩:=hM.info;obtain ⟨z,h4,h5,_⟩:=h3 (hJ hs).1;refine ⟨inf,z,h1,h4,h2,?_,h5⟩;have:=congrArg List.length h5;rw [aX] at this;simpa using this
theorem Ib (z:Value) (m i:Nat) (h:i<m) (hz:0<z.cells.size):(madeCells z.cells m).getD i undef=z.cells.getD (i % z.cells.size) undef:=by
 have h1:i<(madeCells z.cells m).size:=by rw [size_madeCells];exact h
 have h2:i % z.cells.size<z.cells.size:=X3 _ hz;rw [Q9,Qg h1,Q9,Qg h2];simp [madeCells,h2]
theorem oC {c:Ty} (x:c.den) (hz:0<c.sz):∀ (n i:Nat) (h:i<((List.replicate n x).flatMap c.enc).length),((List.replicate n x).flatMap c.enc)[i]=(c.enc x)[i % c.sz]'(by rw [aX];exact X3 _ hz)
 | 0,i,h=>by simp at h
 | n+1,i,h=>by
  simp only [List.replicate_succ,V7]
  by_cases hi:i<c.sz
  ·rw [QC (by rw [aX];exact hi)];congr 1;exact (XC hi).symm
  rw [QR (by rw [aX];omega),oC x hz n];congr 1;rw [aX,Nat.mod_eq_sub_mod (a:=i) Q2]
theorem KA {t e:TypeId} {c:Ty} {x y:Operand} {kl kc:IntKind} {n cap:Int} {b:Nat} {inf:TypeInfo} {k:Tmp} (hu:T.P.underlying t=some (.slice e)) (hM:vY T.P e c) (hs:gO c=true) (hi:T.P.info? e=some inf) (hb:inf.bytes=b)
 (ho:o.op = .makeSlice t x y) (hx:V.ev W x=some (.int kl n)) (hy:V.ev W y=some (.int kc cap)) (s:0<=n) (hnc:n<=cap) (hbb:b*cap.toNat<=281474976710656) (hm:cap.toNat<=maxLen) (hk:W.rows k=none) (hkl:k≠cd) (hdd:o.dst=some k) (hd:dm X (some k)) :
 cf T.P X o W (put (setRow W k ⟨e,c.sz,n.toNat,(List.replicate n.toNat c.zero).flatMap c.enc⟩) (some k) (.own k)):=by
 intro a w ⟨L,r⟩;obtain ⟨m,z,h1,h2,h3,h4,h5⟩:=jr hM hs;rw [hi] at h1;cases h1;have d:=(hJ hs).2;have l:cap<=9223372036854775807:=by simp only [maxLen] at hm;omega
 have g:(inf.bytes:Int)*cap<=281474976710656:=by
  have:(b:Int)*cap.toNat<=281474976710656:=by rw [<- Int.natCast_mul];omega
  rw [hb]
  rwa [WC Q2] at this
 have hr:=run_make (P:=T.P) w t e inf z hu hi h2 kl kc n cap s hnc g l;have j:(madeCells z.cells (cap.toNat*inf.size)).size=cap.toNat*c.sz:=by rw [size_madeCells,h3]
 have r2:=r.newRow hk hkl (madeCells z.cells (cap.toNat*inf.size)) e c.sz n.toNat cap.toNat ((List.replicate n.toNat c.zero).flatMap c.enc) (by rw [dZ,QI]) j Q2 hm (fun i h=>by
  have p:i<n.toNat*c.sz:=by rw [dZ,QI] at h;exact h
  have q:n.toNat*c.sz<=cap.toNat*c.sz:=QJ _ Q2;rw [Ib z _ i (by rw [h3];omega) Q2,oC _ d,h4];have f:i % c.sz<z.cells.size:=by rw [h4];exact X3 _ d
  have e1:z.cells.getD (i % c.sz) undef=z.cells[i % c.sz]:=by rw [Q9,Qg f];rfl
  rw [e1];have e2:(c.enc c.zero)[i % c.sz]'(by rw [aX];exact X3 _ d)=ij z.cells[i % c.sz]:=by
   simp only [<- h5,Qz,Array.getElem_toList]
  rw [e2];exact jT _ _ _)
 refine cW (v:=.slice (some ⟨w.heap.size,0,none⟩) n.toNat cap.toNat) (w':=w.alloc (.cells (madeCells z.cells (cap.toNat*inf.size)) e)) ?_ ⟨bh L k (.slice (some ⟨w.heap.size,0,none⟩) n.toNat cap.toNat),?_⟩
 ·simp only [execOp,ho,(r.ev hx).lit,(r.ev hy).lit];simp [hr]
 rw [hdd];refine r2.put hd ?_;have:(.slice (some ⟨w.heap.size,0,none⟩) n.toNat cap.toNat:Value)=bh L k (.slice (some ⟨w.heap.size,0,none⟩) n.toNat cap.toNat) k:=by simp [bh]
 conv=>arg 5;rw [this]
 exact .own (r:=⟨e,c.sz,n.toNat,(List.replicate n.toNat c.zero).flatMap c.enc⟩) (by simp [setRow])
theorem Kz {t e:TypeId} {c:Ty} {x y:Operand} {kl kc:IntKind} {n cap:Int} {b:Nat} {inf:TypeInfo} (hu:T.P.underlying t=some (.slice e)) (hM:vY T.P e c) (hs:gO c=true) (hi:T.P.info? e=some inf) (hb:inf.bytes=b)
 (ho:o.op = .makeSlice t x y) (hx:V.ev W x=some (.int kl n)) (hy:V.ev W y=some (.int kc cap)) (h0:0<=n) (hnc:n<=cap) (hbb:b*cap.toNat<=281474976710656) (hm:cap.toNat<=maxLen) (hd:dm X o.dst) :
 cf T.P X o W (put W o.dst (Ty.pv (.list c) (List.replicate n.toNat c.zero))):=by
 intro a w ⟨L,r⟩;obtain ⟨s,z,h1,h2,h3,h4,h5⟩:=jr hM hs;rw [hi] at h1;cases h1;have d:=(hJ hs).2;have q:cap<=9223372036854775807:=by simp only [maxLen] at hm;omega
 have j:(inf.bytes:Int)*cap<=281474976710656:=by
  have:(b:Int)*cap.toNat<=281474976710656:=by rw [<- Int.natCast_mul];omega
  rw [hb]
  rwa [WC Q2] at this
 have hr:=run_make (P:=T.P) w t e inf z hu hi h2 kl kc n cap h0 hnc j q;have m:(madeCells z.cells (cap.toNat*inf.size)).size=cap.toNat*c.sz:=by rw [size_madeCells,h3]
 generalize hcl:madeCells z.cells (cap.toNat*inf.size)=cells at hr m;have f:Below w.heap.size w (w.alloc (.cells cells e)):=⟨rfl,rfl,rfl,Q3,fun k hk=>Below.heap_alloc _ _ _ Q2⟩;have u:n.toNat*c.sz<=cap.toNat*c.sz:=QJ _ Q2;refine cW (v:=.slice (some ⟨w.heap.size,0,none⟩) n.toNat cap.toNat) (w':=w.alloc (.cells cells e)) ?_ ⟨L,(r.wide f).put hd ?_⟩
 ·simp only [execOp,ho,(r.ev hx).lit,(r.ev hy).lit];simp [hr]
 show cQ _ _ _ _ _ (.cv (.row (List.replicate n.toNat c.zero).length ((List.replicate n.toNat c.zero).flatMap c.enc)));rw [QI];refine .cv (.row _ _ _ _ (fun i=>cells.getD i undef) rfl (jq r f _ (.inr ⟨Qn _,Q3⟩)) Q2 (fun i h=>?_) (fun i h=>?_))
 ·have l:i<n.toNat*c.sz:=by rw [dZ,QI] at h;exact h
  have p:i<cells.size:=Q2;rw [V.add_plain,QS,cell_of_row (w.alloc (.cells cells e)) w.heap.size i cells e (0,0) (heap_alloc_new w _)];simp [Q9,Qg p]
 have l:i<n.toNat*c.sz:=by rw [dZ,QI] at h;exact h
 rw [<- hcl,Ib z _ i (by rw [h3];omega) Q2,oC _ d,h4];have g:i % c.sz<z.cells.size:=by rw [h4];exact X3 _ d
 have e1:z.cells.getD (i % c.sz) undef=z.cells[i % c.sz]:=by rw [Q9,Qg g];rfl
 rw [e1];have e2:(c.enc c.zero)[i % c.sz]'(by rw [aX];exact X3 _ d)=ij z.cells[i % c.sz]:=by
  simp only [<- h5,Qz,Array.getElem_toList]
 rw [e2];exact jT _ _ _
end
section
variable {T:gU} {X:Ctx} {W:St} {o:Oper} {rd:Nat->Option df} {rr:Nat->Option (Option bZ)} {F:Nat} {R:E6}
def eU (T:gU) (X:Ctx) (W:St) (o:Oper) (R:E6):Prop:=cf T.P X o W (gQ (qb W R.r) o.dst R.v)
theorem aU {p:PV} (hr:R.r=none) (hv:R.v.pv=some p) (h:Pure T.P X o W p) (hd:dm X o.dst):eU T X W o R:=by
 unfold eU;rw [hr];exact xF h hv hd
theorem me (hA:cK W rd rr) {k:Nat} {e:TypeId} {b:Ty} {y:b.den} (h:rr k=some (some (.box e b y))):W.rows k=some ⟨e,b.rsz,b.rn,b.enc y⟩:=hA.rows k _ h
theorem mf (hA:cK W rd rr) {k:Nat} {e:TypeId} {b:Ty} {l:List b.den} (h:rr k=some (some (.arr e b l))):W.rows k=some ⟨e,b.sz,l.length,l.flatMap b.enc⟩:=hA.rows k _ h
theorem Lp {L:mJ} {a:Act} {w:World} (r:cM X W L a w) {x:Operand} {k i sz off:Nat} {e:TypeId} {b:Ty} {l:List b.den} (hx:ev W x=some (.po k (i*sz+off))) (hk:W.rows k=some ⟨e,b.sz,l.length,l.flatMap b.enc⟩) (hsz:sz=b.sz):i<l.length:=by
 subst hsz;have h:=r.ev hx;generalize a.eval x=v at h;cases h with
 | po h hL ho =>
  rw [hk] at h;cases h;simp only [dZ] at ho;rcases We i l.length with c | c
  ·exact c
  have:=QJ b.sz c;omega
theorem lS {t:TypeId} {c:Ty} {x:Operand} {k off:Nat} {d:Row} {z:c.den} (hM:vY T.P t c) (ho:o.op = .load t x) (hx:ev W x=some (.po k off)) (hk:W.rows k=some d) (hz:(d.data.drop off).take c.sz=c.enc z) (hl:off+c.sz<=d.data.length):Pure T.P X o W (c.pv z):=by
 obtain ⟨ds,hu,hd⟩:=hM.Kl;cases hag:c.oR with
 | true =>
  obtain ⟨b,h1,h2,_⟩:=hM.info;rw [qk hag];rcases BT hd hag with ⟨fs,rfl⟩ | ⟨n,e,rfl⟩
  ·have:=nC (X:=X) ho hu h1 hx hk (by rw [h2];exact hl);rw [h2,hz] at this;exact this
  have:=tK (X:=X) ho hu h1 hx hk (by rw [h2];exact hl);rw [h2,hz] at this;exact this
 | false =>
  obtain ⟨cc,h1,h2⟩:=sJ hag z;have hs:c.sz=1:=by rw [<- aX c z,h1];rfl
  rw [hs,h1] at hz;have hc:d.data[off]?=some cc:=by
   have a:off<d.data.length:=Q2;rw [QD a] at hz;simp only [List.take_succ_cons,List.take_zero,W5,YB] at hz;rw [Qh a,hz]
  have hp:=lW hd hag;rw [h2];cases ds<;>first | (cases hp;done) | exact gV ho hu rfl hx hk hc
theorem N2 {t:TypeId} {c:Ty} {x:Operand} {z:c.den} (hM:vY T.P t c) (ho:o.op = .load t x) (hx:ev W x=some (.pr (c.enc z))):Pure T.P X o W (c.pv z):=by
 obtain ⟨ds,hu,hd⟩:=hM.Kl;cases hag:c.oR with
 | true =>
  obtain ⟨a,h1,h2,_⟩:=hM.info;rw [qk hag];rcases BT hd hag with ⟨fs,rfl⟩ | ⟨n,e,rfl⟩
  ·exact tL ho hu h1 (by rw [h2,aX]) hx
  exact zc ho hu h1 (by rw [h2,aX]) hx
 | false =>
  obtain ⟨cc,h1,h2⟩:=sJ hag z;rw [h1] at hx;have hp:=lW hd hag;rw [h2];cases ds<;>first | (cases hp;done) | exact uJ ho hu rfl hx
theorem EC {t:TypeId} {c d:Ty} {x:Operand} {i fo:Nat} {y:c.den} {z:d.den} (hM:vY T.P t c) (ho:o.op = .field t x i) (hx:ev W x=some (c.pv y)) (hat:l6 c [i]=some (fo,d)) (hz:((c.enc y).drop fo).take d.sz=d.enc z) (hl:fo+d.sz<=c.sz):Pure T.P X o W (d.pv z):=by
 have g:c.oR=true:=st_ag (IL hat);obtain ⟨fs,hu,hf⟩:=hM.st (IL hat);obtain ⟨f,h1,h2,h3,h,h4,h5⟩:=rL _ _ _ hf hat;rw [QS] at h2;have a:fs[i]?=some f:=by rw [<- V1];exact h1
 rw [qk g] at hx;unfold kindOk at h3;split at h3
 ·rename_i ds hd;cases hag2:d.oR with
  | true =>
   rw [qk hag2];rcases BT h3 hag2 with ⟨fs',rfl⟩ | ⟨n,e,rfl⟩
   ·have:=zd (X:=X) ho hu a hd h4 hx (by rw [h2,h5,aX];exact hl);rw [h2,h5,hz] at this;exact this
   have:=xG (X:=X) ho hu a hd h4 hx (by rw [h2,h5,aX];exact hl);rw [h2,h5,hz] at this;exact this
  | false =>
   obtain ⟨cc,g1,g2⟩:=sJ hag2 z;have hs:d.sz=1:=by rw [<- aX d z,g1];rfl
   rw [hs,g1] at hz;have hc:(c.enc y)[f.offset]?=some cc:=by
    have b:fo<(c.enc y).length:=by rw [aX];omega
    rw [QD b] at hz;simp only [List.take_succ_cons,List.take_zero,W5,YB] at hz;rw [h2,Qh b,hz]
   have hp:=lW h3 hag2;rw [g2];cases ds<;>first | (cases hp;done) | exact xH ho hu a hd rfl hx hc
 cases h3
theorem pX {t:TypeId} {c:Ty} {x y:Operand} {k off:Nat} {d:Row} {u:c.den} {data':List CV} (hM:vY T.P t c) (ho:o.op = .store t x y) (hdst:o.dst=none) (hx:ev W x=some (.po k off)) (hk:W.rows k=some d) (hy:ev W y=some (c.pv u)) (hl:off+c.sz<=d.data.length) (hs:V.splice d.data off (c.enc u)=data'):cf T.P X o W (setRow W k { d with data:=data' }):=by
 obtain ⟨a,h1,h2,_⟩:=hM.info;have:=tz (X:=X) ho h1 hx hk hy (jz c u) (oY c u) (by rw [aX,h2]) (by rw [aX];exact hl) (by rw [eS,WM]);rw [hdst,hs] at this;exact this
theorem jk (hA:cK W rd rr) {x:Operand} {n dflt:Int} (h:intOf rd x=some n):bound W dflt (some x)=some n:=by
 obtain ⟨k,hk⟩:=hA.int h;simp only [bound,hk]
theorem mc {t e:TypeId} {c:Ty} {x:Operand} {lo hi:Option Operand} {l:List c.den} {i j:Int} (hu:T.P.underlying t=some (.slice e)) (hM:vY T.P e c) (ho:o.op = .slice t x lo hi none) (hx:ev W x=some (Ty.pv (.list c) l)) (hl:bound W 0 lo=some i) (hh:bound W l.length hi=some j) (b:0<=i) (d:i<=j) (f:j<=l.length):Pure T.P X o W (Ty.pv (.list c) ((l.take j.toNat).drop i.toNat)):=by
 obtain ⟨a,g1,g2,_⟩:=hM.info;have:=xE (X:=X) ho hu g1 hx (by rw [g2,dZ]) hl hh b d f;rw [g2] at this;have e1:((l.flatMap c.enc).drop (i.toNat*c.sz)).take ((j.toNat-i.toNat)*c.sz)=((l.take j.toNat).drop i.toNat).flatMap c.enc:=by
  rw [rI,nU,VM]
 have e2:((l.take j.toNat).drop i.toNat).length=j.toNat-i.toNat:=by simp;omega
 show Pure T.P X o W (.cv (.row ((l.take j.toNat).drop i.toNat).length (((l.take j.toNat).drop i.toNat).flatMap c.enc)));rw [e2,<- e1];exact this
end
section
variable {T:gU} {X:Ctx} {W:St} {o:Oper} {rd:Nat->Option df} {rr:Nat->Option (Option bZ)} {F:Nat} {R:E6}
def dU (X:Ctx) (o:Oper):Prop:=∀ d,o.dst=some d->d<X.nt/\d≠cd
theorem dU.dm (h:dU X o):dm X o.dst:=by
 unfold V.dm;cases hd:o.dst with
 | none=>trivial
 | some d=>exact (h d hd).1
theorem ky {t:TypeId} {c b d:Ty} {x:Operand} {i k off fo:Nat} {e:TypeId} {y:b.den} {p:List Nat} (hM:vY T.P t c) (ho:o.op = .fieldAddr t x i) (hx:ev W x=some (.po k off)) {dr:Row} (hk:W.rows k=some dr) (hl:off+c.sz<=dr.data.length) (hat:l6 c [i]=some (fo,d)) (hd:d.sz≠0):Pure T.P X o W (.po k (off+fo)):=by
 obtain ⟨fs,hu,hf⟩:=hM.st (IL hat);obtain ⟨f,h1,h2,h3,g,h4,h5⟩:=rL _ _ _ hf hat;rw [QS] at h2;have a:fs[i]?=some f:=by rw [<- V1];exact h1
 obtain ⟨_,_,_,hb⟩:=gZ c [i] c.zero hat;have:=lP (X:=X) ho hu a h4 (by rw [h5];exact hd) hx hk (by rw [h2];omega);rw [h2] at this;exact this
theorem BK {t:TypeId} {c d:Ty} {x:Operand} {i fo:Nat} {y:c.den} {z:d.den} (hM:vY T.P t c) (ho:o.op = .fieldAddr t x i) (hx:ev W x=some (.pr (c.enc y))) (hat:l6 c [i]=some (fo,d)) (hz:((c.enc y).drop fo).take d.sz=d.enc z) (hd:d.sz≠0):Pure T.P X o W (.pr (d.enc z)):=by
 obtain ⟨fs,hu,hf⟩:=hM.st (IL hat);obtain ⟨f,h1,h2,h3,b,h4,h5⟩:=rL _ _ _ hf hat;rw [QS] at h2;have a:fs[i]?=some f:=by rw [<- V1];exact h1
 have:=my (X:=X) ho hu a h4 (by rw [h5];exact hd) hx;rw [h2,h5,hz] at this;exact this
theorem zt (hA:cK W rd rr) (hd:dU X o) {x:Operand} {v:df} (ho:o.op = .move x∨o.op = .assign x) (hv:gA rd x=some v) (ha:v≠.any):eU T X W o ⟨none,v,none⟩:=by
 obtain ⟨p,hp⟩:∃ p,v.pv=some p:=by cases v<;>first | exact ⟨_,rfl⟩ | exact absurd rfl ha
 exact aU rfl hp (nB ho (hA.ev hv hp)) hd.dm
theorem CO (hT:cN T=true) (hA:cK W rd rr) (hd:dU X o) {x:Operand} {d:Nat} {e:TypeId} {c:Ty} (ho:o.op = .move x∨o.op = .assign x) (hn:sO T F o x=some (d,e,c)) (a:rr d=some none):eU T X W o ⟨none,.own d,some (d,.arr e c [])⟩:=by
 unfold sO at hn;split at hn
 ·split at hn
  ·rename_i d' hdd;split at hn
   ·rename_i e' c' hm he;cases hn;have hk:W.rows d=none:=hA.rows d _ a;have:=Hr (P:=T.P) (X:=X) (S:=W) d e c.sz ho hk (hd d hdd).2 hd.dm;unfold eU;rw [hdd] at this ⊢;exact this
   cases hn
  cases hn
 cases hn
theorem FC (hT:cN T=true) (hA:cK W rd rr) (hd:dU X o) {t:TypeId} {d:Nat} {c:Ty} (ho:o.op = .alloc t) (b:o.dst=some d) (g:find T.ty t=some c) (f:gO c=true) (j:rr d=some none):eU T X W o ⟨none,.po d 0 [],some (d,.box t c c.zero)⟩:=by
 have hM:=gf hT g;obtain ⟨a,g1,g2,g3⟩:=hM.info;obtain ⟨z,g4,g5,g6,g7⟩:=g3 (hJ f).1;have hk:W.rows d=none:=hA.rows d _ j;have hz:z.cells.size=(c.enc c.zero).length/\∀ i (h:i<(c.enc c.zero).length),ij (z.cells.getD i undef)=(c.enc c.zero)[i]:=by
  have e:=congrArg List.length g5;rw [QZ,Array.length_toList] at e;refine ⟨e,fun i h=>?_⟩;have h':i<z.cells.size:=Q2;have e1:z.cells.getD i undef=z.cells[i]:=by rw [Q9,Qg h'];rfl
  rw [e1];simp only [<- g5,Qz,Array.getElem_toList]
 have hc:eA (E9 z)=some (c.enc c.zero):=by
  cases hag:c.oR with
  | true =>
   obtain ⟨vs,rfl⟩:=g7 hag;show some (vs.toList.map ij)=_;rw [<- g5];rfl
  | false=>rw [(g6 hag).2];exact jz _ _
 have:=AE (P:=T.P) (X:=X) (S:=W) (sz:=c.rsz) (n:=c.rn) d ho g1 g4 hc hz (by rw [aX,K6]) hM.zi (by rw [aX];exact (hJ f).2) hk (hd d b).2 hd.dm;unfold eU;rw [b] at this ⊢;exact this
theorem KK (hT:cN T=true) (hA:cK W rd rr) (hd:dU X o) {t:TypeId} {x:Operand} {d:Nat} {c:Ty} {v:df} {y:c.den} (ho:o.op = .box t x) (a:o.dst=some d) (b:find T.ty t=some c) (hv:gA rd x=some v) (hy:coe c v=some y) (f:gO c=true) (e:rr d=some none):eU T X W o ⟨none,.po d 0 [],some (d,.box t c y)⟩:=by
 have hk:W.rows d=none:=hA.rows d _ e;have:=Fp (P:=T.P) (X:=X) (S:=W) (sz:=c.rsz) (n:=c.rn) d ho (hA.ev hv (fF hy)) (jz c y) (by rw [aX,K6]) (gf hT b).zi (by rw [aX];exact (hJ f).2) hk (hd d a).2 hd.dm (by rw [eS,WM]);unfold eU;rw [a] at this ⊢;exact this
theorem FA (hT:cN T=true) (hA:cK W rd rr) (hd:dU X o) {t:TypeId} {ps:Array (Nat×Operand)} {c:Ty} {y:c.den} (ho:o.op = .build t ps) (e:find T.ty t=some c) (hst:c.JO=true) (hp:c.plain=true) (hy:vz rd c ps.toList c.zero=some y):eU T X W o ⟨none,.v c y,none⟩:=by
 have hM:=gf hT e;obtain ⟨b,g1,g2,g3⟩:=hM.info;obtain ⟨z,g4,g5,_,g7⟩:=g3 hp;have a:=st_ag hst;obtain ⟨fs,hu,hf⟩:=hM.st hst;obtain ⟨pl,k1,k2⟩:=mZ _ _ _ hf;obtain ⟨qs,q1,q2⟩:=ur hA (t:=c) (pl:=pl) (fun i fo d h=>by have:=k2 i fo d h;rwa [QS] at this) ps.toList _ _ hy;have:=sK (X:=X) ho hu g1 g4 k1 q1 (by rw [show mK z=c.enc c.zero from g5];exact q2);exact aU (R:=⟨none,.v c y,none⟩) rfl rfl (by rw [qk a];exact this) hd.dm
theorem D7 {P:Program} {e:TypeId} {c:Ty} {inf:TypeInfo} {z:Value} {n:Nat} (a:inf.size=c.sz):((madeCells z.cells (n*inf.size)).toList.map ij).length=n*c.sz:=by
 rw [QZ,Array.length_toList,size_madeCells,a]
theorem xk (hT:cN T=true) (hA:cK W rd rr) (hd:dU X o) {t e:TypeId} {n d:Nat} {ps:Array (Nat×Operand)} {c:Ty} {l:List c.den} (ho:o.op = .buildSlice t n ps) (f:o.dst=some d) (g:BQ T t=some (e,c)) (hn:n=ps.toList.length) (hl:vA rd c 0 ps.toList=some l) (hs:gO c=true) (hlim:n*c.sz<=16777216) :
 eU T X W o ⟨none,.v (.list c) l,none⟩/\(rr d=some none->eU T X W o ⟨none,.own d,some (d,.arr e c l)⟩):=by
 obtain ⟨hu,hM,_⟩:=nX hT g;obtain ⟨inf,z,g1,g2,g3,g4,g5⟩:=jr hM hs;obtain ⟨g0,qs,q1,q2⟩:=uu hA ps.toList 0 l [] ((madeCells z.cells (n*inf.size)).toList.map ij) hl Q3 (by rw [D7 (P:=T.P) (e:=e) g3,hn]);simp only [List.nil_append] at q2;rw [<- g3] at q2;have a:l.length=n:=by rw [g0,hn]
 have b:=(hJ hs).2;constructor
 ·have:=KB (X:=X) (S:=W) ho hu g1 g2 Q2 (by rw [g3];exact hlim) q1 q2 hd.dm;unfold eU;rw [f] at this ⊢;rw [<- a] at this;exact this (ki l)
 intro h4;have hk:W.rows d=none:=hA.rows d _ h4;have:=sD (X:=X) (S:=W) (P:=T.P) d ho hu g1 g2 Q2 (by rw [g3];exact hlim) (by have:n*1<=n*c.sz:=Wi _ b;simp only [maxLen];omega) q1 q2 hk (hd d f).2 hd.dm;unfold eU;rw [f] at this ⊢;rw [<- a,g3] at this;exact this (by rw [ki,WM])
theorem I6 (hT:cN T=true) (hA:cK W rd rr) (hd:dU X o) {t e:TypeId} {d b:Nat} {x y:Operand} {c:Ty} {n m:Int} (ho:o.op = .makeSlice t x y) (i:o.dst=some d) (j:BQ T t=some (e,c)) (hx:intOf rd x=some n) (hy:intOf rd y=some m) (hb:find T.by_ e=some b) (hs:gO c=true) (k:rr d=some none)
 (hc:0<=n/\n<=m/\b*m.toNat<=281474976710656/\m.toNat<=maxLen) (cc:Option Kk):eU T X W o ⟨cc,.own d,some (d,.arr e c (List.replicate n.toNat c.zero))⟩:=by
 obtain ⟨hu,hM,_⟩:=nX hT j;obtain ⟨⟨g,g1,g2⟩,h⟩:=OD hT hb;obtain ⟨k1,f⟩:=hA.int hx;obtain ⟨k2,a⟩:=hA.int hy;have hk:W.rows d=none:=hA.rows d _ k;have:=KA (X:=X) hu hM hs g1 g2 ho f a hc.1 hc.2.1 hc.2.2.1 hc.2.2.2 hk (hd d i).2 i (by have:=hd.dm;rwa [i] at this);unfold eU;rw [i];have e1:n.toNat=(List.replicate n.toNat c.zero).length:=by rw [QI]
 show cf T.P X o W (put (setRow W d ⟨e,c.sz,(List.replicate n.toNat c.zero).length,(List.replicate n.toNat c.zero).flatMap c.enc⟩) (some d) (.own d));rw [<- e1];exact this
theorem Fw (hT:cN T=true) (hA:cK W rd rr) (hd:dU X o) {t e:TypeId} {b:Nat} {x y:Operand} {c:Ty} {n m:Int} (ho:o.op = .makeSlice t x y) (i:BQ T t=some (e,c)) (hx:intOf rd x=some n) (hy:intOf rd y=some m) (hb:find T.by_ e=some b) (hs:gO c=true)
 (hc:0<=n/\n<=m/\b*m.toNat<=281474976710656/\m.toNat<=maxLen) (cc:Option Kk):eU T X W o ⟨cc,.v (.list c) (List.replicate n.toNat c.zero),none⟩:=by
 obtain ⟨hu,hM,_⟩:=nX hT i;obtain ⟨⟨g,g1,g2⟩,h⟩:=OD hT hb;obtain ⟨k1,f⟩:=hA.int hx;obtain ⟨k2,a⟩:=hA.int hy;have:=Kz (X:=X) hu hM hs g1 g2 ho f a hc.1 hc.2.1 hc.2.2.1 hc.2.2.2 hd.dm;unfold eU;cases hdd:o.dst with
 | none=>rw [hdd] at this;exact this
 | some d=>rw [hdd] at this;exact this
theorem Fz (hT:cN T=true) (hA:cK W rd rr) (hd:dU X o) {t e:TypeId} {b:Nat} {y:Operand} {q:Ty} {cl:Call} {v:df} {m:List q.den} (ho:o.op = .call cl) (hcl:cl.callee = .builtin .append) (ha:cl.args = #[.const (.slice none 0 0),y]) (ht:cl.argTypes = #[t,t]) (g:BQ T t=some (e,q)) (hv:gA rd y=some v) (hm:coe (.list q) v=some m) (hb:find T.by_ e=some b) (hs:gO q=true) (hc:m.length*b<=140737488355328) (cc:Option Kk):eU T X W o ⟨cc,.v (.list q) m,none⟩:=by
 obtain ⟨hu,hM,_⟩:=nX hT g;obtain ⟨⟨f,g1,g2⟩,a⟩:=OD hT hb;obtain ⟨c,z,k1,k2,k3,k4,k5⟩:=jr hM hs;rw [g1] at k1;cases k1;have hx:=hA.ev hv (fF hm);have:=CA (X:=X) (S:=W) ho hcl ha ht hu g1 k2 (by rw [k4,k3]) (by rw [k3];exact (hJ hs).2) hx (by rw [k3,dZ]) (qP m) (by
  have:m.length*1<=m.length*b:=Wi _ a;simp only [maxLen];omega) (by rw [g2];exact hc) hd.dm
 unfold eU;unfold gQ;cases hdd:o.dst with
 | none=>rw [hdd] at this;exact this
 | some d=>rw [hdd] at this;exact this
end
section
variable {T:gU} {X:Ctx} {W:St} {o:Oper} {rd:Nat->Option df} {rr:Nat->Option (Option bZ)} {F:Nat} {R:E6}
theorem iQ {α:Type} {a:Array α} {l:List α} (h:a.toList=l):a=l.toArray:=by rw [<- h]
theorem I7 (hT:cN T=true) (hA:cK W rd rr) (hd:dU X o) {t:TypeId} {x:Operand} (ho:o.op = .load t x) (h:step T F rd rr o=some R):eU T X W o R:=by
 unfold step at h;rw [ho] at h;dsimp only at h;split at h
 ·rename_i c c' y hc hx;split at h
  ·rename_i z hz;cases h;obtain ⟨rfl,rfl⟩:=di hz;exact aU rfl rfl (N2 (gf hT hc) ho (hA.ev hx rfl)) hd.dm
  cases h
 ·rename_i c k off p hc hx;split at h
  ·rename_i e b y hk;split at h
   ·rename_i off' cc c' z hat hg;split at h
    ·rename_i u hb hu;cases h;obtain ⟨z',g1,g2,g3⟩:=gZ b p y hat;rw [hg] at g1;cases g1;obtain ⟨rfl,rfl⟩:=di hu;have:=beq_true hb;subst this;exact aU rfl rfl (lS (gf hT hc) ho (hA.ev hx rfl) (me hA hk) g2 (by rw [aX];exact g3)) hd.dm
    cases h
   cases h
  cases h
 ·rename_i c k i sz off p hc hx;split at h
  ·rename_i e b l hk;split at h
   ·rename_i off' cc c' z hat hg;split at h
    ·rename_i u hb hsz hu;cases h;have e1:=beq_true hb;have e2:=beq_true hsz;subst e1;obtain ⟨rfl,rfl⟩:=di hu;have d:=hA.ev hx rfl;refine aU rfl rfl ?_ hd.dm;intro L a w r;have hi:=Lp r d (mf hA hk) e2;subst e2;obtain ⟨z',g1,g2,g3⟩:=ve l i hi hat;rw [hg] at g1;cases g1;exact lS (gf hT hc) ho d (mf hA hk) g2 g3 L a w r
    cases h
   cases h
  cases h
 cases h
theorem Ft (hT:cN T=true) (hA:cK W rd rr) (hd:dU X o) {t:TypeId} {x y:Operand} (ho:o.op = .store t x y) (h:step T F rd rr o=some R):eU T X W o R:=by
 unfold step at h;rw [ho] at h;dsimp only at h;split at h
 ·rename_i c k off p v hdst hc hx hy;split at h
  ·rename_i e b z u hk hu;split at h
   ·rename_i off' cc z' hat hs;split at h
    ·rename_i hb;cases h;have e1:=beq_true hb;subst e1;obtain ⟨rfl,h2⟩:=qY b p z hat hs;obtain ⟨_,_,_,h3⟩:=gZ b p z hat;have:=pX (X:=X) (gf hT hc) ho hdst (hA.ev hx rfl) (me hA hk) (hA.ev hy (fF hu)) (by rw [aX];exact h3) h2.symm;unfold eU;rw [hdst];exact this
    cases h
   cases h
  cases h
 ·rename_i c k i sz off p v hdst hc hx hy;split at h
  ·rename_i e b l u hk hu;split at h
   ·rename_i off' cc z' hat hs;split at h
    ·rename_i hb hsz;cases h;have e1:=beq_true hb;have e2:=beq_true hsz;subst e1;have f:=hA.ev hx rfl;unfold eU;rw [hdst];intro a w ⟨L,r⟩;have hi:=Lp r f (mf hA hk) e2;subst e2;obtain ⟨rfl,_⟩:=qY b p _ hat hs;obtain ⟨_,_,_,h3⟩:=ve l i hi hat;have:=pX (X:=X) (gf hT hc) ho hdst f (mf hA hk) (hA.ev hy (fF hu)) h3 (EA l i hi hat hs);have e3:(⟨e,b.sz,l.length,(l.set i z').flatMap b.enc⟩:Row)=(bZ.arr e b (l.set i z')).row:=by simp [bZ.row]
     have d:cf T.P X o W (setRow W k (bZ.arr e b (l.set i z')).row):=by rw [<- e3];exact this
     exact d a w ⟨L,r⟩
    cases h
   cases h
  cases h
 cases h
theorem xn (hT:cN T=true) (hA:cK W rd rr) (hd:dU X o) {t:TypeId} {x:Operand} {i:Nat} (ho:o.op = .fieldAddr t x i) (h:step T F rd rr o=some R):eU T X W o R:=by
 unfold step at h;rw [ho] at h;dsimp only at h;split at h
 ·rename_i c k off p hc hx;split at h
  ·rename_i fo d e b y hat hk;split at h
   ·rename_i off' c' hbp;split at h
    ·rename_i q hb hq hds;cases h;have e1:=beq_true hb;subst e1;have e2:=q.down;subst e2;obtain ⟨_,_,_,h3⟩:=gZ b p y hbp;exact aU (R:=⟨none,.po k (off+fo) (p++[i]),none⟩) rfl rfl (ky (e:=e) (y:=y) (p:=p) (gf hT hc) ho (hA.ev hx rfl) (me hA hk) (by rw [aX];exact h3) hat (beq_false hds)) hd.dm
    cases h
   cases h
  cases h
 ·rename_i c k j sz off p hc hx;split at h
  ·rename_i fo d e b l hat hk;split at h
   ·rename_i off' c' hbp;split at h
    ·rename_i q hb hq hsz hds;cases h;have e1:=beq_true hb;subst e1;have e2:=q.down;subst e2;have e3:=beq_true hsz;have f:=hA.ev hx rfl;refine aU (R:=⟨none,.pe k j sz (off+fo) (p++[i]),none⟩) (p:=.po k (j*sz+(off+fo))) rfl rfl ?_ hd.dm;intro L a w r;have hi:=Lp r f (mf hA hk) e3;subst e3;obtain ⟨_,_,_,h3⟩:=ve l j hi hbp;have:=ky (X:=X) (o:=o) (e:=e) (y:=b.zero) (p:=p) (gf hT hc) ho f (mf hA hk) h3 hat (beq_false hds);rw [Yx] at this;exact this L a w r
    cases h
   cases h
  cases h
 ·rename_i c c' y hc hx;split at h
  ·rename_i q fo d' d z hq hat hg;split at h
   ·rename_i hds;cases h;have e2:=q.down;subst e2;obtain ⟨z',g1,g2,g3⟩:=gZ c [i] y hat;rw [hg] at g1;cases g1;exact aU rfl rfl (BK (gf hT hc) ho (hA.ev hx rfl) hat g2 (beq_false hds)) hd.dm
   cases h
  cases h
 cases h
theorem Fy (hT:cN T=true) (hA:cK W rd rr) (hd:dU X o) {t:TypeId} {x:Operand} {i:Nat} (ho:o.op = .field t x i) (h:step T F rd rr o=some R):eU T X W o R:=by
 unfold step at h;rw [ho] at h;dsimp only at h;split at h
 ·rename_i c v hc hx;split at h
  ·rename_i y hy;split at h
   ·rename_i fo d d' z hat hg;split at h
    ·cases h;obtain ⟨z',g1,g2,g3⟩:=gZ c [i] y hat;rw [hg] at g1;cases g1;exact aU rfl rfl (EC (gf hT hc) ho (hA.ev hx (fF hy)) hat g2 g3) hd.dm
    cases h
   cases h
  cases h
 cases h
theorem Fx (hT:cN T=true) (hA:cK W rd rr) (hd:dU X o) {t:TypeId} {x y:Operand} (ho:o.op = .indexAddr t x y) (h:step T F rd rr o=some R) (hc:∀ c,R.c=some c->c.p):eU T X W o R:=by
 unfold step at h;rw [ho] at h;dsimp only at h;split at h
 ·rename_i e c k i he hx hy;split at h
  ·rename_i e' c' l hk;split at h
   ·rename_i q hq hs;cases h;have e2:=q.down;subst e2;obtain ⟨hu,hM,_⟩:=nX hT he;obtain ⟨kk,a⟩:=hA.int hy;obtain ⟨b,g1,g2,_⟩:=hM.info;have hb:=hc _ rfl;have:=vH (X:=X) ho hu g1 (hA.ev hx rfl) a (mf hA hk) hb.1 hb.2 g2.symm (by rw [g2];exact (hJ hs).2);rw [g2] at this;exact aU (R:=⟨_,.pe k i.toNat c.sz 0 [],none⟩) (p:=.po k (i.toNat*c.sz+0)) rfl rfl this hd.dm
   cases h
  cases h
 ·rename_i e c v i hnot he hx hy;split at h
  ·rename_i l hl;cases h;obtain ⟨hu,hM,_⟩:=nX hT he;obtain ⟨kk,a⟩:=hA.int hy;obtain ⟨b,g1,g2,_⟩:=hM.info;have hb:=hc _ rfl;have d:i.toNat<l.length:=by have:=hb.1;have:=hb.2;omega
   have:=HQ (X:=X) ho hu g1 (hA.ev hx (fF hl)) a hb.1 hb.2 (by rw [g2,dZ]);rw [g2,uj l i.toNat d] at this;exact aU rfl rfl this hd.dm
  cases h
 cases h
theorem Fv (hT:cN T=true) (hA:cK W rd rr) (hd:dU X o) {t:TypeId} {x:Operand} {lo hi:Option Operand} (ho:o.op = .slice t x lo hi none) (h:step T F rd rr o=some R) (hc:∀ c,R.c=some c->c.p):eU T X W o R:=by
 unfold step at h;rw [ho] at h;dsimp only at h;split at h
 ·rename_i s hx;have a:=hA.ev hx rfl;split at h
  ·rename_i lo hi ht;have hu:=(gf hT ht).str;split at h
   ·rename_i i j hi' hj';cases h;have hb:=hc _ rfl;exact aU rfl rfl (jy ho hu a (jk hA hi') (jk hA hj') hb.1 hb.2.1 hb.2.2) hd.dm
   cases h
  ·rename_i hi ht;have hu:=(gf hT ht).str;split at h
   ·rename_i j hj';cases h;have hb:=hc _ rfl;have:=jy (X:=X) (l:=0) ho hu a rfl (jk hA hj') (Vl _) hb.1 hb.2;exact aU rfl rfl this hd.dm
   cases h
  ·rename_i lo ht;have hu:=(gf hT ht).str;split at h
   ·rename_i i hi';cases h;have hb:=hc _ rfl;have:=jy (X:=X) (h:=(s.size:Int)) ho hu a (jk hA hi') rfl hb.1 hb.2 (Vl _);rw [Int.toNat_natCast] at this;exact aU rfl rfl this hd.dm
   cases h
  cases h
 ·rename_i v hnot hx;split at h
  ·rename_i e c he;obtain ⟨hu,hM,_⟩:=nX hT he;split at h
   ·rename_i l hl;have a:=hA.ev hx (fF hl);split at h
    ·split at h
     ·rename_i i j hi' hj';cases h;have hb:=hc _ rfl;exact aU rfl rfl (mc hu hM ho a (jk hA hi') (jk hA hj') hb.1 hb.2.1 hb.2.2) hd.dm
     cases h
    ·split at h
     ·rename_i j hj';cases h;have hb:=hc _ rfl;have:=mc (X:=X) (i:=0) hu hM ho a rfl (jk hA hj') (Vl _) hb.1 hb.2;exact aU rfl rfl this hd.dm
     cases h
    ·split at h
     ·rename_i i hi';cases h;have hb:=hc _ rfl;have:=mc (X:=X) (j:=(l.length:Int)) hu hM ho a (jk hA hi') rfl hb.1 hb.2 (Vl _);rw [Int.toNat_natCast,Qw] at this;exact aU rfl rfl this hd.dm
     cases h
    cases h;have:=mc (X:=X) (i:=0) (j:=(l.length:Int)) hu hM ho a rfl rfl (Vl _) Q2 (Vl _);rw [Int.toNat_natCast,Qw] at this;exact aU rfl rfl this hd.dm
   cases h
  cases h
 cases h
end
section
variable {T:gU} {X:Ctx} {W:St} {o:Oper} {rd:Nat->Option df} {rr:Nat->Option (Option bZ)} {F:Nat} {R:E6}
theorem FB (hT:cN T=true) (hA:cK W rd rr) (hd:dU X o) {op:BinOp} {t t':TypeId} {x y:Operand} (ho:o.op = .binOp op t x y t') (h:step T F rd rr o=some R) (hc:∀ c,R.c=some c->c.p):eU T X W o R:=by
 unfold step at h;rw [ho] at h;dsimp only at h;split at h
 ·rename_i k a k' b hx hy;have e:=hA.pR hx;have d:=hA.pR hy;have hs:sure y=true->0<b:=fun hs=>KG hs hy;split at h
  ·rename_i hq;obtain ⟨h1,p,h2,h3⟩:=vB (X:=X) ho e d (.inl (N4 hq)) _ hs h hc;exact aU h1 h2 h3 hd.dm
  ·obtain ⟨h1,p,h2,h3⟩:=vB (X:=X) ho e d (.inr (.inl rfl)) _ hs h hc;exact aU h1 h2 h3 hd.dm
  ·obtain ⟨h1,p,h2,h3⟩:=vB (X:=X) ho e d (.inr (.inr rfl)) _ hs h hc;exact aU h1 h2 h3 hd.dm
  cases h
 ·rename_i a b hx hy;split at h
  ·rename_i ht;unfold binB at h;split at h
   ·cases h;exact aU rfl rfl (tN ho (gf hT ht).bool (hA.pR hx) (hA.pR hy) (.inl ⟨rfl,rfl⟩)) hd.dm
   ·cases h;exact aU rfl rfl (tN ho (gf hT ht).bool (hA.pR hx) (hA.pR hy) (.inr ⟨rfl,rfl⟩)) hd.dm
   cases h
  cases h
 ·rename_i a b hx hy;unfold binS at h;split at h
  ·cases h;exact aU rfl rfl (tJ ho (hA.pR hx) (hA.pR hy) (.inl ⟨rfl,rfl⟩)) hd.dm
  ·cases h;exact aU rfl rfl (tJ ho (hA.pR hx) (hA.pR hy) (.inr ⟨rfl,rfl⟩)) hd.dm
  ·cases h;exact aU rfl rfl (zN ho (hA.pR hx) (hA.pR hy) (hc _ rfl)) hd.dm
  cases h
 cases h
theorem I8 (hT:cN T=true) (hA:cK W rd rr) (hd:dU X o) {c:Call} (ho:o.op = .call c) (h:step T F rd rr o=some R) (hc:∀ c,R.c=some c->c.p):eU T X W o R:=by
 unfold step at h;rw [ho] at h;dsimp only at h;split at h
 ·rename_i hcl;split at h
  ·rename_i x t ha ht;have d:=iQ ha;have f:=iQ ht;split at h
   ·rename_i cc cc' l hty hx;cases h;obtain ⟨e,hu⟩:=(gf hT hty).list;exact aU rfl rfl (lO ho hcl d f hu (hA.pR hx) rfl) hd.dm
   ·rename_i cc hty hx;cases h;obtain ⟨e,hu⟩:=(gf hT hty).list;have:=lO (X:=X) ho hcl d f hu (hA.ev hx rfl) (n:=0) rfl;exact aU rfl rfl this hd.dm
   ·rename_i cc k hty hx;split at h
    ·rename_i e cc' l hk;cases h;obtain ⟨e,hu⟩:=(gf hT hty).list;exact aU rfl rfl (lO ho hcl d f hu (hA.ev hx rfl) (by simp only [rP,mf hA hk,Option.map_some])) hd.dm
    cases h
   ·rename_i s hty hx;cases h;exact aU rfl rfl (zM ho hcl d f (gf hT hty).str (hA.pR hx)) hd.dm
   cases h
  cases h
 ·rename_i hcl;split at h
  ·rename_i y t t' ha ht;split at h
   ·rename_i e q v he hv htt;have:=beq_true htt;subst this;split at h
    ·rename_i b m hb hm hs;cases h;exact Fz hT hA hd ho hcl (iQ ha) (iQ ht) he hv hm hb hs (hc _ rfl) _
    cases h
   cases h
  cases h
 ·rename_i hcl;split at h
  ·rename_i x y ha;split at h
   ·rename_i k a k' b hx hy;split at h
    ·rename_i q hq;cases h;have e:=q.down;subst e;exact aU rfl rfl (o_max (ts:=#[]) ho hcl (iQ ha) (hA.pR hx) (hA.pR hy)) hd.dm
    cases h
   cases h
  cases h
 ·rename_i hcl;split at h
  ·rename_i x y ha;split at h
   ·rename_i k a k' b hx hy;split at h
    ·rename_i q hq;cases h;have e:=q.down;subst e;exact aU rfl rfl (o_min (ts:=#[]) ho hcl (iQ ha) (hA.pR hx) (hA.pR hy)) hd.dm
    cases h
   cases h
  cases h
 cases h
theorem Ng (l:List Int):l.flatMap (Ty.enc (.int .u8))=V.ints .u8 l:=by
 induction l with
 | nil=>rfl
 | cons x l ih=>rw [V7,ih];rfl
theorem AJ (hT:cN T=true) (hA:cK W rd rr) (hd:dU X o) {s d:TypeId} {x:Operand} (ho:o.op = .convert s d x) (h:step T F rd rr o=some R):eU T X W o R:=by
 unfold step at h;rw [ho] at h;dsimp only at h;split at h
 ·rename_i k k' n hdt hx;split at h
  ·rename_i cs hs;cases h;obtain ⟨ds,hu,_⟩:=(gf hT hs).Kl;have:=j8 (X:=X) ho hu (gf hT hdt).int (hA.pR hx);exact aU rfl (by rw [zl];rfl) this hd.dm
  cases h
 ·rename_i l hdt hx;split at h
  ·rename_i e hs;cases h;obtain ⟨hu,hM,_⟩:=nX hT hs;have a:=hA.pR hx
   haveI:UL T.P s (.slice e):=⟨hu⟩
   haveI:UL T.P d .string:=⟨(gf hT hdt).str⟩
   haveI:UL T.P e (.int .u8):=⟨hM.int⟩
   have b:ev W x=some (.ints .u8 l):=by
    rw [a];show some (PV.cv (.row l.length (l.flatMap (Ty.enc (.int .u8)))))=_;rw [Ng]
   exact aU rfl rfl (s_of ho b) hd.dm
  cases h
 cases h
theorem Fu (hT:cN T=true) (hA:cK W rd rr) (hd:dU X o) (h:step T F rd rr o=some R) (hc:∀ c,R.c=some c->c.p):eU T X W o R:=by
 have h0:=h;cases ho:o.op with
 | load t x=>exact I7 hT hA hd ho h
 | store t x y=>exact Ft hT hA hd ho h
 | fieldAddr t x i=>exact xn hT hA hd ho h
 | field t x i=>exact Fy hT hA hd ho h
 | indexAddr t x y=>exact Fx hT hA hd ho h hc
 | binOp op t x y t'=>exact FB hT hA hd ho h hc
 | call c=>exact I8 hT hA hd ho h hc
 | convert s d x=>exact AJ hT hA hd ho h
 | slice t x lo hi mx =>
  cases mx with
  | none=>exact Fv hT hA hd ho h hc
  | some m=>unfold step at h;rw [ho] at h;cases h
 | move x =>
  unfold step at h;rw [ho] at h;dsimp only at h;split at h
  ·rename_i d e c hn;split at h
   ·rename_i hr;cases h;exact CO (F:=F) hT hA hd (.inl ho) hn hr
   cases h
  split at h
  ·cases h
  ·rename_i v hn hv;cases h;exact zt hA hd (.inl ho) hv hn
  cases h
 | assign x =>
  unfold step at h;rw [ho] at h;dsimp only at h;split at h
  ·rename_i d e c hn;split at h
   ·rename_i hr;cases h;exact CO (F:=F) hT hA hd (.inr ho) hn hr
   cases h
  split at h
  ·cases h
  ·cases h
  ·rename_i v hn hv _;cases h;exact zt hA hd (.inr ho) hv (fun e=>hn e)
  cases h
 | alloc t =>
  unfold step at h;rw [ho] at h;dsimp only at h;split at h
  ·rename_i d c hdd hc';split at h
   ·rename_i hs hr;cases h;exact FC hT hA hd ho hdd hc' hs hr
   cases h
  cases h
 | box t x =>
  unfold step at h;rw [ho] at h;dsimp only at h;split at h
  ·rename_i d c v hdd hc' hv;split at h
   ·rename_i y hy hr hs;cases h;exact KK hT hA hd ho hdd hc' hv hy hs hr
   cases h
  cases h
 | build t ps =>
  unfold step at h;rw [ho] at h;dsimp only at h;split at h
  ·rename_i a b hc';split at h
   ·rename_i hp;split at h
    ·rename_i y hy;cases h;exact FA hT hA hd ho hc' rfl hp hy
    cases h
   cases h
  cases h
 | buildSlice t n ps =>
  unfold step at h;rw [ho] at h;dsimp only at h;split at h
  ·rename_i e c d he hdd;split at h
   ·rename_i l hn hl hs;rw [Qm] at hs;have f:=xk hT hA hd ho hdd he (beq_true hn) hl hs.1 (Qe hs.2);split at h
    ·cases h;exact f.1
    split at h
    ·rename_i hr;cases h;exact f.2 hr
    cases h
   cases h
  cases h
 | makeSlice t x y =>
  unfold step at h;rw [ho] at h;dsimp only at h;split at h
  ·rename_i e c d n m he hdd hx hy;split at h
   ·rename_i b hb hs hm;split at h
    ·rename_i hr;cases h;exact I6 hT hA hd ho hdd he hx hy hb hs hr (hc _ rfl) _
    cases h
   ·rename_i b hb hs hm;cases h;exact Fw hT hA hd ho he hx hy hb hs (hc _ rfl) _
   cases h
  cases h
 | nilCheck x =>
  unfold step at h;rw [ho] at h;dsimp only at h;split at h
  ·rename_i k off p hx;cases h;exact aU rfl rfl (mR ho (hA.ev hx rfl) (.inl ⟨_,_,rfl⟩)) hd.dm
  ·rename_i k i sz off p hx;cases h;exact aU rfl rfl (mR ho (hA.ev hx rfl) (.inl ⟨_,_,rfl⟩)) hd.dm
  ·rename_i c y hx;cases h;exact aU rfl rfl (mR ho (hA.ev hx rfl) (.inr ⟨_,rfl⟩)) hd.dm
  cases h
 | unOp op t x =>
  unfold step at h;rw [ho] at h;dsimp only at h;split at h
  ·rename_i b hx;cases h;exact aU rfl rfl (Dw ho (hA.pR hx)) hd.dm
  ·rename_i k n hx;cases h;exact aU rfl (by rw [zl];rfl) (Dz ho (hA.pR hx)) hd.dm
  cases h
 | index t x y =>
  unfold step at h;rw [ho] at h;dsimp only at h;split at h
  ·rename_i s i ht hx hy;cases h;obtain ⟨k,g⟩:=hA.int hy
   haveI:UL T.P t .string:=⟨(gf hT ht).str⟩
   have hb:=hc _ rfl;exact aU rfl rfl (Eo ho (hA.pR hx) g hb.1 hb.2) hd.dm
  cases h
 | extract x i =>
  unfold step at h;rw [ho] at h;dsimp only at h;split at h
  ·rename_i t y hx;split at h
   ·rename_i c z hg;cases h;have f:∀ (t:Ty) (y:t.den) (i:Nat) (c:Ty) (z:c.den),rV t [i] y=some (.v c z)->(t.pvl y)[i]?=some (c.pv z):=by
     intro t
     induction t with
     | pair a b _ ihb =>
      intro y i c z h;cases i with
      | zero =>
       have:rV a [] y.1=some (.v c z):=h;have e:some (df.v a y.1)=some (.v c z):=by cases a<;>exact this
       cases e;rfl
      | succ i=>exact ihb y.2 i c z h
     | _=>intro y i c z h;cases h
    exact aU rfl rfl (tM ho (hA.ev hx rfl) (f t y i c z hg)) hd.dm
   cases h
  cases h
 | _=>unfold step at h;rw [ho] at h;cases h
end
theorem tp {α:Type} {enc:α->List CV} {z:α} (h:∀ x,∀ c∈enc x,c≠.any):∀ (n:Nat) (l:List α),∀ c∈oZ enc z n l,c≠.any
 | 0,_,c,hc=>by simp [oZ] at hc
 | n+1,[],c,hc=>by
  simp only [oZ,QT] at hc;exact hc.elim (h _ c) (tp h n [] c)
 | n+1,a :: l,c,hc=>by
  simp only [oZ,QT] at hc;exact hc.elim (h _ c) (tp h n l c)
theorem kn:∀ (t:Ty) (x:t.den),∀ c∈t.enc x,c≠.any
 | .int _,_,c,h=>by simp only [Ty.enc,QB] at h;rw [h];exact fun e=>by cases e
 | .bool,_,c,h=>by simp only [Ty.enc,QB] at h;rw [h];exact fun e=>by cases e
 | .str,_,c,h=>by simp only [Ty.enc,QB] at h;rw [h];exact fun e=>by cases e
 | .fn,_,c,h=>by simp only [Ty.enc,QB] at h;rw [h];exact fun e=>by cases e
 | .unit,_,c,h=>by simp only [Ty.enc,Yi] at h
 | .list _,_,c,h=>by simp only [Ty.enc,QB] at h;rw [h];exact fun e=>by cases e
 | .arr n e,x,c,h=>tp (kn e) n x c (by simpa only [Ty.enc] using h)
 | .pair a b,x,c,h=>by
  simp only [Ty.enc,QT] at h;rcases h with h | h
  ·exact kn a x.1 c h
  exact kn b x.2 c h
theorem Ar {c c':CV} (h:lY c c') (hc:c≠.any):c'=c:=by
 cases c with
 | any=>exact absurd rfl hc
 | _=>exact h
theorem yp {d d':Row} (h:j4 d d') {o n:Nat} {cs:List CV} (hs:(d.data.drop o).take n=cs) (hc:∀ c∈cs,c≠.any):(d'.data.drop o).take n=cs:=by
 subst hs;apply QP
 ·simp only [Qd,Qq,h.len]
 intro i h1 h2;have a:=h2;simp only [Qd,Qq] at h1 a;have:=h.le (o+i) Q2 Q2;have e1:((d.data.drop o).take n)[i]=d.data[o+i]:=by rw [V6,V0]
 have e2:((d'.data.drop o).take n)[i]'(by simp only [Qd,Qq];omega)=d'.data[o+i]'Q2:=by rw [V6,V0]
 rw [e1,e2];exact Ar this (by rw [<- e1];exact hc _ (Qi h2))
theorem LQ {l l' cs:List CV} {o:Nat} (hlen:l'.length=l.length) (hl:o+cs.length<=l.length) (hle:∀ i (h:i<l.length) (h':i<l'.length),lY l[i] l'[i]) (i:Nat) (b:i<(l.take o++cs++l.drop (o+cs.length)).length) (c:i<(l'.take o++cs++l'.drop (o+cs.length)).length):lY (l.take o++cs++l.drop (o+cs.length))[i] (l'.take o++cs++l'.drop (o+cs.length))[i]:=by
 have a:i<l.length:=by simp only [Qf,Qd,Qq] at b;omega
 by_cases c1:i<o
 ·have e1:∀ (l:List CV) (hh:i<(l.take o++cs++l.drop (o+cs.length)).length) (hh2:i<l.length),(l.take o++cs++l.drop (o+cs.length))[i]=l[i]:=by
   intro l hh hh2;rw [QC (by simp only [Qf,Qd];omega),QC (by simp only [Qd];omega),V6]
  rw [e1 l b a,e1 l' c Q2];exact hle i a Q2
 by_cases c2:i<o+cs.length
 ·have e1:∀ (l:List CV) (hh:i<(l.take o++cs++l.drop (o+cs.length)).length) (hh2:o<=l.length),(l.take o++cs++l.drop (o+cs.length))[i]=cs[i-o]'Q2:=by
   intro l hh hh2;rw [QC (by simp only [Qf,Qd];omega),QR (by simp only [Qd];omega)];congr 1;simp only [Qd];omega
  rw [e1 l b Q2,e1 l' c Q2];exact mI _
 have e1:∀ (l:List CV) (hh:i<(l.take o++cs++l.drop (o+cs.length)).length) (hh2:o<=l.length) (hh3:i<l.length),(l.take o++cs++l.drop (o+cs.length))[i]=l[i]:=by
  intro l hh hh2 hh3;rw [QR (by simp only [Qf,Qd];omega),V0];congr 1;simp only [Qf,Qd];omega
 rw [e1 l b Q2 a,e1 l' c Q2 Q2];exact hle i a Q2
theorem JJ {d d':Row} (h:j4 d d') {o:Nat} {cs:List CV} (hl:o+cs.length<=d.data.length):j4 { d with data:=V.splice d.data o cs } { d' with data:=V.splice d'.data o cs }:=by
 refine ⟨h.e,h.sz,h.n,?_,fun i b a=>LQ h.len hl h.le i b a⟩;show (V.splice d'.data o cs).length=(V.splice d.data o cs).length;rw [V.length_splice _ _ _ hl,V.length_splice _ _ _ (by rw [h.len];exact hl),h.len]
theorem xV (t:Ty) (x:t.den):mA (t.pv x)=t.pv x:=by cases t<;>rfl
theorem yR {g:fj}:∀ (fs:List fj) (i j o o':Nat) (f f':fj),nZ fs i=some (o,f)->g.sz=f.sz->nZ (gP fs i g) j=some (o',f')->∃ f0,nZ fs j=some (o',f0)/\f0.sz=f'.sz/\(j≠i->f0=f')
 | [],i,j,o,o',f,f',h,_,_=>by cases h
 | f1 :: l,0,j,o,o',f,f',h,hg,h2=>by
  simp only [nZ,Qj,Vy] at h;obtain ⟨rfl,rfl⟩:=h;cases j with
  | zero =>
   simp only [gP,nZ,Qj,Vy] at h2;obtain ⟨rfl,rfl⟩:=h2;exact ⟨f1,rfl,hg.symm,fun h=>absurd rfl h⟩
  | succ j =>
   simp only [gP,nZ] at h2 ⊢;cases hx:nZ l j with
   | none=>rw [hx] at h2;cases h2
   | some x =>
    rw [hx] at h2;cases h2;exact ⟨x.2,by rw [hg],rfl,fun _=>rfl⟩
 | f1 :: l,i+1,j,o,o',f,f',h,hg,h2=>by
  simp only [nZ] at h;cases hx:nZ l i with
  | none=>rw [hx] at h;cases h
  | some x =>
   obtain ⟨o1,f2⟩:=x;rw [hx] at h;cases h;cases j with
   | zero =>
    simp only [gP,nZ,Qj,Vy] at h2;obtain ⟨rfl,rfl⟩:=h2;exact ⟨f1,rfl,rfl,fun _=>rfl⟩
   | succ j =>
    simp only [gP,nZ] at h2 ⊢;cases hy:nZ (gP l i g) j with
    | none=>rw [hy] at h2;cases h2
    | some y =>
     obtain ⟨o2,f3⟩:=y;rw [hy] at h2;cases h2;obtain ⟨f0,k1,k2,k3⟩:=yR l i j o1 o2 f2 f3 hx hg hy;exact ⟨f0,by rw [k1],k2,fun h=>k3 (fun e=>h (by rw [e]))⟩
theorem yQ {g:fj}:∀ (fs:List fj) (i j o:Nat) (f:fj),j≠i->nZ fs j=some (o,f)->∃ o',nZ (gP fs i g) j=some (o',f)
 | [],i,j,o,f,_,h=>by cases h
 | f1 :: l,0,j,o,f,hne,h=>by
  cases j with
  | zero=>exact absurd rfl hne
  | succ j =>
   simp only [gP,nZ] at h ⊢;cases hx:nZ l j with
   | none=>rw [hx] at h;cases h
   | some x=>rw [hx] at h;cases h;exact ⟨_,rfl⟩
 | f1 :: l,i+1,j,o,f,hne,h=>by
  cases j with
  | zero=>simp only [nZ,Qj,Vy] at h;obtain ⟨rfl,rfl⟩:=h;exact ⟨0,rfl⟩
  | succ j =>
   simp only [gP,nZ] at h ⊢;cases hx:nZ l j with
   | none=>rw [hx] at h;cases h
   | some x =>
    obtain ⟨o1,f2⟩:=x;rw [hx] at h;cases h;obtain ⟨o',h'⟩:=yQ (g:=g) l i j o1 f2 (fun e=>hne (by rw [e])) hx;exact ⟨_,by rw [h']⟩
theorem zy {g g':fj}:∀ (fs:List fj) (i j:Nat),i≠j->gP (gP fs i g) j g'=gP (gP fs j g') i g
 | [],_,_,_=>rfl
 | f :: l,0,0,h=>absurd rfl h
 | f :: l,0,j+1,h=>rfl
 | f :: l,i+1,0,h=>rfl
 | f :: l,i+1,j+1,h=>by simp only [gP,zy l i j (fun e=>h (by rw [e]))]
theorem Ip:∀ (t:Ty) (x:t.den) (fs:List fj) (i o:Nat) (f:fj),iP t x=some fs->nZ fs i=some (o,f)->∃ d z,f = .v d z/\l6 t [i]=some (o,d)
 | .unit,_,fs,i,o,f,h,ha=>by simp only [iP,Qj] at h;subst h;cases ha
 | .pair a b,x,fs,i,o,f,h,ha=>by
  simp only [iP] at h;split at h
  ·rename_i l hl;cases h;cases i with
   | zero =>
    simp only [nZ,Qj,Vy] at ha;obtain ⟨rfl,rfl⟩:=ha;exact ⟨a,x.1,rfl,by cases a<;>rfl⟩
   | succ i =>
    simp only [nZ] at ha;cases hx:nZ l i with
    | none=>rw [hx] at ha;cases ha
    | some y =>
     obtain ⟨o1,f1⟩:=y;rw [hx] at ha;cases ha;obtain ⟨d,z,h1,h2⟩:=Ip b x.2 l i o1 f1 hl hx;exact ⟨d,z,h1,by simp only [l6,h2];rfl⟩
  cases h
 | .int _,_,_,_,_,_,h,_=>by cases h
 | .bool,_,_,_,_,_,h,_=>by cases h
 | .str,_,_,_,_,_,h,_=>by cases h
 | .fn,_,_,_,_,_,h,_=>by cases h
 | .list _,_,_,_,_,_,h,_=>by cases h
theorem Aj:∀ (t:Ty) (fs:List fj) (i o:Nat) (f:fj),iP t t.zero=some fs->nZ fs i=some (o,f)->∃ d:Ty,f = .v d d.zero
 | .unit,fs,i,o,f,h,ha=>by simp only [iP,Qj] at h;subst h;cases ha
 | .pair a b,fs,i,o,f,h,ha=>by
  simp only [iP] at h;split at h
  ·rename_i l hl;cases h;cases i with
   | zero =>
    simp only [nZ,Qj,Vy] at ha;obtain ⟨rfl,rfl⟩:=ha;exact ⟨a,rfl⟩
   | succ i =>
    simp only [nZ] at ha;cases hx:nZ l i with
    | none=>rw [hx] at ha;cases ha
    | some y =>
     obtain ⟨o1,f1⟩:=y;rw [hx] at ha;cases ha;exact Aj b l i o1 f1 hl hx
  cases h
 | .int _,_,_,_,_,h,_=>by cases h
 | .bool,_,_,_,_,h,_=>by cases h
 | .str,_,_,_,_,h,_=>by cases h
 | .fn,_,_,_,_,h,_=>by cases h
 | .list _,_,_,_,_,h,_=>by cases h
section
variable {T:gU} {X:Ctx} {W:St} {o:Oper} {rd:Nat->Option df} {rr:Nat->Option (Option bZ)} {F:Nat} {R:E6}
theorem yN {g:fj} {j:Nat}:∀ (ps:List (Nat×Operand)) (fs fs':List fj),qn j ps=true->l5 rd ps fs=some fs'->l5 rd ps (gP fs j g)=some (gP fs' j g)
 | [],fs,fs',_,h=>by simp only [l5,Qj] at h;subst h;rfl
 | (i,y) :: ps,fs,fs',hp,h=>by
  simp only [qn] at hp;split at hp
  ·cases hp
  rename_i hne;have hne:i≠j:=beq_false hne;simp only [l5] at h ⊢;split at h
  ·rename_i v q c z0 hv hat;obtain ⟨o',hat'⟩:=yQ (g:=g) fs j i q _ hne hat;simp only [hv,hat'];split at h
   ·rename_i g' hg';rw [zy fs j i (Yn hne)];exact yN ps _ fs' hp h
   cases h
  cases h
theorem Ir {c:Ty} {v:df} {g:fj} (h:fldO c v=some g):g.sz=c.sz/\∃ p,v.pv=some p/\eA (mA p)=some g.enc:=by
 have go:∀ v:df,(match coe c v with | some z=>some (fj.v c z) | none=>none)=some g->g.sz=c.sz/\∃ p,v.pv=some p/\eA (mA p)=some g.enc:=by
  intro v h;split at h
  ·rename_i z hz;cases h;exact ⟨rfl,_,fF hz,by rw [xV];exact jz c z⟩
  cases h
 cases v with
 | own k =>
  cases c<;>cases h;exact ⟨rfl,_,rfl,rfl⟩
 | _=>exact go _ h
theorem pb (hA:cK W rd rr) {pl:List (Nat×Nat)}:∀ (ps:List (Nat×Operand)) (fs fs':List fj),(∀ i o f,nZ fs i=some (o,f)->pl[i]?=some (o,f.sz))->l5 rd ps fs=some fs'->∃ qs,parts (Cq W) ps=some qs/\iC (pl.toArray[·]?) (dP fs) qs=some (dP fs')
 | [],fs,fs',_,h=>by simp only [l5,Qj] at h;subst h;exact ⟨[],rfl,rfl⟩
 | (i,y) :: ps,fs,fs',hpl,h=>by
  simp only [l5] at h;split at h
  ·rename_i v q c z0 hv hat;have go:∀ (g:fj),g.sz=(fj.v c z0).sz->l5 rd ps (gP fs i g)=some fs'->(ev (Cq W) y).bind eA=some g.enc->∃ qs,parts (Cq W) ((i,y) :: ps)=some qs/\iC (pl.toArray[·]?) (dP fs) qs=some (dP fs'):=by
    intro g hg hb hp;obtain ⟨_,b,a⟩:=pc fs i q _ hat;obtain ⟨e1,e2⟩:=a g hg;obtain ⟨qs,h1,h2⟩:=pb hA ps _ fs' (fun j o' f' hj=>by
     obtain ⟨f0,k1,k2,_⟩:=yR fs i j q o' _ f' hat hg hj;rw [<- k2];exact hpl j o' f0 k1) hb
    refine ⟨(i,g.enc) :: qs,by simp only [parts,hp,h1],?_⟩;simp only [iC,X7,hpl i q _ hat];rw [Qc (by rw [ie,cC,hg];omega)];have e:(dP fs).take q++g.enc++(dP fs).drop (q+g.enc.length)=dP (gP fs i g):=by rw [e1];rfl
    rw [e];simpa only [X7] using h2
   split at h
   ·rename_i g hg;obtain ⟨h1,p,h2,h3⟩:=Ir hg;exact go g h1 h (by rw [Mf (hA.ev hv h2)];exact h3)
   cases h
  cases h
theorem Hj {P:Program} {t:TypeId} {c:Ty} {inf:TypeInfo} {z:Value} (hz:z.cells.toList.map ij=c.enc c.zero):z.cells.size=(c.enc c.zero).length/\∀ i (h:i<(c.enc c.zero).length),ij (z.cells.getD i undef)=(c.enc c.zero)[i]:=by
 have e:=congrArg List.length hz;rw [QZ,Array.length_toList] at e;refine ⟨e,fun i h=>?_⟩;have h':i<z.cells.size:=Q2;have e1:z.cells.getD i undef=z.cells[i]:=by rw [Q9,Qg h'];rfl
 rw [e1];simp only [<- hz,Qz,Array.getElem_toList]
theorem CZ (hT:cN T=true) (hA:cK W rd rr) (hd:dU X o) {t:TypeId} {d:Nat} {c:Ty} {fs:List fj} (ho:o.op = .alloc t) (f:o.dst=some d) (e:find T.ty t=some c) (b:gO c=true) (hf:iP c c.zero=some fs) (g:rr (d+opened)=some none):eU T X W o ⟨none,.po (d+opened) 0 [],some (d+opened,.obox t fs)⟩:=by
 have hM:=gf hT e;obtain ⟨inf,g1,g2,g3⟩:=hM.info;obtain ⟨z,g4,g5,g6,g7⟩:=g3 (hJ b).1;have hk:W.rows (d+opened)=none:=hA.rows _ _ g;obtain ⟨e1,e2,a⟩:=ui _ _ _ hf;have hc:eA (E9 z)=some (c.enc c.zero):=by
  obtain ⟨vs,rfl⟩:=g7 a;show some (vs.toList.map ij)=_;rw [<- g5];rfl
 have:=CD (P:=T.P) (X:=X) (S:=W) (d+opened) ho g1 g4 hc (Hj (P:=T.P) (t:=t) (inf:=inf) g5) (by rw [aX];exact (hJ b).2) hk (by show d+2000000≠1000000;omega) hd.dm;unfold eU;rw [f] at this ⊢;rw [<- e1,cC] at this;exact this
theorem CY (hT:cN T=true) (hA:cK W rd rr) (hd:dU X o) {t:TypeId} {ps:Array (Nat×Operand)} {d:Nat} {c:Ty} {fs fs':List fj} (ho:o.op = .build t ps) (x:o.dst=some d) (y:find T.ty t=some c) (hp:c.plain=true) (hf:iP c c.zero=some fs) (hb:l5 rd ps.toList fs=some fs') :
 eU T X W o ⟨none,.st fs',none⟩/\∀ i q o1 y0 e,nZ fs i=some (o1,.v (.list q) y0)->qn i ps.toList=true->rr d=some none->eU T X W o ⟨none,.st (gP fs' i (.own d)),some (d,.arr e q [])⟩:=by
 have hM:=gf hT y;obtain ⟨inf,g1,g2,g3⟩:=hM.info;obtain ⟨z,g4,g5,_,g7⟩:=g3 hp;obtain ⟨e1,e2,s⟩:=ui _ _ _ hf;obtain ⟨sf,hu,n⟩:=hM.st (by cases c<;>first | rfl | cases hf);obtain ⟨pl,k1,k2⟩:=mZ _ _ _ n;have l:∀ i o f,nZ fs i=some (o,f)->pl[i]?=some (o,f.sz):=by
  intro i o f h;obtain ⟨d',z',rfl,h'⟩:=Ip _ _ _ _ _ _ hf h;have:=k2 i _ _ h'
  rwa [QS] at this
 constructor
 ·obtain ⟨qs,q1,q2⟩:=pb hA ps.toList fs fs' l hb;have:=sK (X:=X) (S:=Cq W) ho hu g1 g4 k1 q1 (by rw [show mK z=c.enc c.zero from g5,<- e1];exact q2);exact aU (R:=⟨none,.st fs',none⟩) rfl rfl (NK this) hd.dm
 intro i q o1 y0 e hat hnot hr;have hk:W.rows d=none:=hA.rows _ _ hr;have hg:(fj.own d).sz=(fj.v (.list q) y0).sz:=rfl;obtain ⟨s1,s2,s3⟩:=pc fs i o1 _ hat;obtain ⟨s4,s5⟩:=s3 (.own d) hg;obtain ⟨qs,q1,q2⟩:=pb hA ps.toList (gP fs i (.own d)) (gP fs' i (.own d)) (fun j o' f' hj=>by
  obtain ⟨f0,k1,k2,_⟩:=yR fs i j o1 o' _ f' hat hg hj;rw [<- k2];exact l j o' f0 k1) (yN ps.toList fs fs' hnot hb)
 obtain ⟨z1,z2⟩:=Hj (P:=T.P) (t:=t) (inf:=inf) g5;have g:(dP (gP fs i (.own d))).length=(c.enc c.zero).length:=by rw [cC,s5,<- cC,e1]
 have r:y0=[]:=by
  obtain ⟨dd,p⟩:=Aj _ _ _ _ _ hf hat;cases dd<;>cases p;rfl
 have a:o1<(c.enc c.zero).length:=by
  rw [<- e1,cC];have:(fj.v (.list q) y0).sz=1:=rfl;omega
 have m:(c.enc c.zero)[o1] = .row 0 []:=by
  have h5:((c.enc c.zero).drop o1).take 1=[.row 0 []]:=by
   rw [<- e1];have:(fj.v (.list q) y0).sz=1:=rfl;rw [this,r] at s1;exact s1
  rw [QD a] at h5;simp only [List.take_succ_cons,List.take_zero,W5,YB] at h5;exact h5
 have:=xg (X:=X) (S:=Cq W) (k:=d) e q.sz ho hu g1 g4 k1 q1 (zs:=dP (gP fs i (.own d))) ⟨by rw [g];exact z1,fun j hj=>by
  have b:j<(c.enc c.zero).length:=by rw [<- g];exact hj
  by_cases cj:j=o1
  ·subst cj;right;refine ⟨?_,?_⟩
   ·simp only [s4,V.splice,fj.enc];rw [QC (by simp only [Qf,Qd,List.length_singleton,cC];rw [<- e1,cC] at a;omega),QR (by simp only [Qd];omega)];simp only [Qd,cC];have:j-min j (pN fs)=0:=by rw [<- e1,cC] at a;omega
    simp [this]
   have h5:=z2 j b;rw [m] at h5;generalize z.cells.getD j undef=v at h5;unfold ij at h5;split at h5
   ·rfl
   cases h5
  left;rw [z2 j b];have w:j<pN fs:=by rw [<- cC,e1];exact b
  have u:o1<pN fs:=by rw [<- cC,e1];exact a
  simp only [s4,V.splice,fj.enc,<- e1]
  by_cases cl:j<o1
  ·rw [QC (by simp only [Qf,Qd,List.length_singleton,cC];omega),QC (by simp only [Qd,cC];omega),V6]
  rw [QR (by simp only [Qf,Qd,List.length_singleton,cC];omega),V0];congr 1;simp only [Qf,Qd,List.length_singleton,cC];omega⟩ q2 hk (hd d x).2 hd.dm
 unfold eU;rw [x] at this ⊢;refine HY ?_;have e3:Cq (gQ (qb W (some (d,bZ.arr e q []))) (some d) (.st (gP fs' i (.own d))))=put (setRow (Cq W) d ⟨e,q.sz,0,[]⟩) (some d) (.ag (dP (gP fs' i (.own d)))):=by
  refine pY (funext fun t=>?_) rfl;simp only [gQ,df.pv,V.put,Cq,qb,setRow]
  by_cases c:t=d
  ·rw [Qk c,Qk c];rfl
  rw [Qc c,Qc c]
 rw [e3];exact this
theorem xv (hA:cK W rd rr) {k:Nat} {e:TypeId} {fs:List fj} (h:rr k=some (some (.obox e fs))):∃ d,W.rows k=some d/\j4 ⟨e,pN fs,1,dP fs⟩ d:=hA.rows k _ h
theorem FF (hT:cN T=true) (hA:cK W rd rr) (hd:dU X o) {t:TypeId} {x:Operand} (ho:o.op = .load t x) (h:pn T F rd rr o=some R):eU T X W o R:=by
 unfold pn at h;rw [ho] at h;dsimp only at h;split at h
 ·rename_i c k off p hc hx;split at h
  ·rename_i e fs hk;obtain ⟨d,a,hle⟩:=xv hA hk;have b:=hA.ev hx rfl;split at h
   ·split at h
    ·rename_i y hy hb;cases h;have:=beq_true hb;subst this;obtain ⟨e1,e2,g⟩:=xU _ _ _ hy;have h1:=yp hle (o:=0) (n:=c.sz) (cs:=c.enc y) (by rw [V9,Qp (by show (dP fs).length<=_;rw [cC,e2];exact Qn _)];exact e1) (kn c y);exact aU rfl rfl (lS (gf hT hc) ho b a h1 (by rw [hle.len];show 0+c.sz<=(dP fs).length;rw [cC,e2];omega)) hd.dm
    cases h
   split at h
   ·rename_i off' c' z hg;split at h
    ·rename_i u hb hu;cases h;have:=beq_true hb;subst this;obtain ⟨rfl,rfl⟩:=di hu;obtain ⟨i,p',_,h2 | ⟨_,_,_,h2⟩⟩:=Ah hg
     ·obtain ⟨o1,ft,x1,o2,c2,g1,g2,g3,g4⟩:=h2;obtain ⟨z',k1,k2,k3⟩:=gZ ft p' x1 g2;rw [g3] at k1;cases k1;obtain ⟨s1,s2,_⟩:=pc fs i o1 _ g1;have s3:((dP fs).drop off).take c'.sz=c'.enc u:=by
       rw [<- k2,g4];have:ft.enc x1=((dP fs).drop o1).take ft.sz:=s1.symm;rw [this,VM,Wv,W3,QO Q2]
      have s4:(fj.v ft x1).sz=ft.sz:=rfl;exact aU rfl rfl (lS (gf hT hc) ho b a (yp hle s3 (kn c' u)) (by rw [hle.len];show off+c'.sz<=(dP fs).length;rw [cC];omega)) hd.dm
     cases h2
    cases h
   ·rename_i off' j hg;split at h
    ·rename_i q hb;cases h;have:=beq_true hb;subst this;obtain ⟨i,p',_,h2 | ⟨j',h2,_,h3⟩⟩:=Ah hg
     ·obtain ⟨o1,ft,x1,o2,c2,g1,g2,g3,g4⟩:=h2;obtain ⟨z',k1,k2,k3⟩:=gZ ft p' x1 g2;rw [g3] at k1;cases k1
     cases h3;obtain ⟨s1,s2,_⟩:=pc fs i off _ h2;have s3:=yp hle (o:=off) (n:=1) (cs:=[.own j]) s1 (fun c hc=>by simp only [QB] at hc;rw [hc];exact fun e=>by cases e);have f:off<d.data.length:=by
      rw [hle.len];show off<(dP fs).length;rw [cC];have:(fj.own j).sz=1:=rfl;omega
     rw [QD f] at s3;simp only [List.take_succ_cons,List.take_zero,W5,YB] at s3;obtain ⟨e',hu⟩:=(gf hT hc).list;exact aU rfl rfl (zb (gV ho hu rfl b a (by rw [Qh f,s3]))) hd.dm
    cases h
   cases h
  cases h
 cases h
theorem AG {t:TypeId} {c:Ty} {x y:Operand} {k off:Nat} {d:Row} {p:PV} {cs:List CV} (hM:vY T.P t c) (ho:o.op = .store t x y) (hdst:o.dst=none) (hko:Nat.ble opened k=true) (hx:ev W x=some (.po k off)) (hk:W.rows k=some d) (hy:ev W y=some p) (hc:eA (mA p)=some cs) (b:cs.all one=true) (hl:cs.length=c.sz) (hle:off+cs.length<=d.data.length):cf T.P X o W (setRow W k { d with data:=V.splice d.data off cs }):=by
 obtain ⟨a,g1,g2,_⟩:=hM.info;have:=tz (X:=X) (S:=Cq W) ho g1 (Mf hx) hk (Mf hy) hc b (by rw [hl,g2]) hle (by rw [hko];rfl);rw [hdst] at this;exact HY this
theorem CU (hT:cN T=true) (hA:cK W rd rr) (hd:dU X o) {t:TypeId} {x y:Operand} (ho:o.op = .store t x y) (h:pn T F rd rr o=some R):eU T X W o R:=by
 unfold pn at h;rw [ho] at h;dsimp only at h;split at h
 ·rename_i c k off p v hdst hc hx hy;split at h
  ·rename_i e fs hk hko;obtain ⟨d,s,hle⟩:=xv hA hk;have j:=hA.ev hx rfl;have hM:=gf hT hc;have m:d.data.length=pN fs:=by rw [hle.len];exact cC fs
   have b:∀ (off:Nat) (cs:List CV) (fs':List fj) (p:PV),ev W x=some (.po k off)->ev W y=some p->eA (mA p)=some cs->cs.all one=true->cs.length=c.sz->off+cs.length<=pN fs->dP fs'=V.splice (dP fs) off cs->pN fs'=pN fs->eU T X W o ⟨none,.any,some (k,.obox e fs')⟩:=by
    intro off cs fs' p g0 g1 g2 g3 g4 g5 g6 g7;have:=AG (X:=X) hM ho hdst hko g0 s g1 g2 g3 g4 (by rw [m];exact g5);unfold eU;rw [hdst];show cf T.P X o W (setRow W k ⟨e,pN fs',1,dP fs'⟩);rw [g7,g6];exact fun a w r=>Oper.rm (fun a w h=>K9 (JJ hle (by show off+cs.length<=(dP fs).length;rw [cC];exact g5)) hko a w h) (fun _ _ _ h=>h) (this a w r)
   split at h
   ·split at h
    ·rename_i fs' hf;split at h
     ·rename_i hb;simp only [Qm] at hb;obtain ⟨⟨⟨b1,b2⟩,b3⟩,b4⟩:=hb;have b1:=beq_true b1;have b2:=beq_true b2;have b3:=beq_true b3;subst b1;cases h;have l:dP fs'=V.splice (dP fs) 0 (dP fs'):=by
       unfold V.splice;rw [List.take_zero,List.nil_append,QS,QG (by rw [cC,cC,b2];exact Qn _),Vq]
      have A:∃ p,v.pv=some p/\eA (mA p)=some (dP fs'):=by
       have go:∀ v:df,(match coe c v with | some u=>iP c u | none=>none)=some fs'->∃ p,v.pv=some p/\eA (mA p)=some (dP fs'):=by
        intro v h;split at h
        ·rename_i u hu;obtain ⟨e1,e2,_⟩:=ui _ _ _ h;exact ⟨_,fF hu,by rw [xV,jz,e1]⟩
        cases h
       cases v with
       | st fs0 =>
        simp only [fldsV,Qj] at hf;subst hf;exact ⟨_,rfl,rfl⟩
       | _=>exact go _ hf
      obtain ⟨p,q,n⟩:=A;exact b 0 (dP fs') fs' p j (hA.ev hy q) n (ED fs') (by rw [cC,b3]) (by rw [cC,b2];omega) l b2
     cases h
    cases h
   split at h
   ·rename_i i p' _ o1 f hat;obtain ⟨s1,s2,s3⟩:=pc fs i o1 _ hat;split at h
    ·split at h
     ·rename_i g hg;split at h
      ·rename_i hb;simp only [Qm] at hb;obtain ⟨b1,b2⟩:=hb;have b1:=beq_true b1;have b2:=beq_true b2;subst b1;cases h;obtain ⟨g1,p,g2,g3⟩:=Ir hg;obtain ⟨e1,e2⟩:=s3 g (by rw [g1,b2]);exact b off g.enc (gP fs i g) p j (hA.ev hy g2) g3 (Iq g) (by rw [ie,g1]) (by rw [ie,g1,<- b2];exact s2) e1 e2
      cases h
     cases h
    split at h
    ·rename_i ft z u hu;split at h
     ·rename_i o2 c2 z' hat2 hset;split at h
      ·rename_i hb;have hb:=beq_true hb;subst hb;cases h;obtain ⟨rfl,h2⟩:=qY ft _ z hat2 hset;obtain ⟨_,_,_,h3⟩:=gZ ft _ z hat2;obtain ⟨e1,e2⟩:=s3 (.v ft z') rfl;have B:(fj.v ft z).sz=ft.sz:=rfl;refine b (o1+o2) (c2.enc u) (gP fs i (.v ft z')) _ j (hA.ev hy (fF hu)) (by rw [xV];exact jz c2 u) (oY c2 u) (aX c2 u) (by rw [aX];omega) ?_ e2;rw [e1];simp only [fj.enc,h2];have s4:ft.enc z=((dP fs).drop o1).take ft.sz:=s1.symm;rw [s4];have s5:=uD (dP fs) o1 ft.sz o2 (c2.enc u) (by rw [aX];exact h3) (by rw [cC];exact s2);rw [s5];unfold V.splice;congr 1;congr 1;simp only [Qf,Qd,Qq,aX,cC];omega
      cases h
     cases h
    cases h
   cases h
  cases h
 cases h
theorem wa (hT:cN T=true) (hA:cK W rd rr) (hd:dU X o) {t:TypeId} {x:Operand} {i:Nat} (ho:o.op = .fieldAddr t x i) (h:pn T F rd rr o=some R):eU T X W o R:=by
 unfold pn at h;rw [ho] at h;dsimp only at h;split at h
 ·rename_i c k off p hc hx;split at h
  ·rename_i e fs fo d hk hat;obtain ⟨dr,f,hle⟩:=xv hA hk;have b:=hA.ev hx rfl;have a:dr.data.length=pN fs:=by rw [hle.len];exact cC fs
   split at h
   ·split at h
    ·rename_i hb;simp only [Qm] at hb;obtain ⟨⟨b1,b2⟩,b3⟩:=hb;have b1:=beq_true b1;have b2:=beq_true b2;have b3:0<d.sz:=Qe b3;subst b1;cases h;exact aU (R:=⟨none,.po k (0+fo) [i],none⟩) rfl rfl (ky (e:=e) (y:=c.zero) (p:=[]) (gf hT hc) ho b f (by rw [a,b2];omega) hat Q2) hd.dm
    cases h
   rename_i j p';split at h
   ·rename_i o1 ft z haf;split at h
    ·rename_i o2 c' hat2;split at h
     ·rename_i q hb hq;simp only [Qm] at hb;obtain ⟨b1,b3⟩:=hb;have b1:=beq_true b1;have b3:0<d.sz:=Qe b3;subst b1;have e2:=q.down;subst e2;cases h;obtain ⟨_,s2,_⟩:=pc fs j o1 _ haf;obtain ⟨_,_,_,h3⟩:=gZ ft p' z hat2;have s4:(fj.v ft z).sz=ft.sz:=rfl;exact aU (R:=⟨none,.po k (o1+o2+fo) (j :: p'++[i]),none⟩) rfl rfl (ky (e:=e) (y:=c.zero) (p:=[]) (gf hT hc) ho b f (by rw [a];omega) hat Q2) hd.dm
     cases h
    cases h
   cases h
  cases h
 cases h
theorem L8 (z q:List CV) (n:Nat) (b:z.length=n) (a:q.length=n):iC (fun i=>some (i*n,n)) z [(0,q)]=some q:=by
 simp only [iC,WZ,QS];rw [Qc Q2];simp [b,a,QG]
theorem CX (hT:cN T=true) (hA:cK W rd rr) (hd:dU X o) {t e:TypeId} {n d:Nat} {ps:Array (Nat×Operand)} {x:Operand} {c:Ty} {fs:List fj} (ho:o.op = .buildSlice t n ps) (f:o.dst=some d) (b:BQ T t=some (e,c)) (hps:ps.toList=[(0,x)]) (hx:gA rd x=some (.st fs)) (hr:rr (d+opened)=some none)
 (hn:n=1) (hsz:pN fs=c.sz) (hfew:pN fs<=1000) (hs:gO c=true):eU T X W o ⟨none,.own (d+opened),some (d+opened,.obox e fs)⟩:=by
 obtain ⟨hu,hM,_⟩:=nX hT b;obtain ⟨inf,z,g1,g4,g2,_,_⟩:=jr hM hs;have hk:W.rows (d+opened)=none:=hA.rows _ _ hr;have hq:parts W ps.toList=some [(0,dP fs)]:=by
  rw [hps];simp only [parts];rw [hA.ev hx rfl];rfl
 subst hn;have a:((madeCells z.cells (1*inf.size)).toList.map ij).length=inf.size:=by
  have:=D7 (P:=T.P) (e:=e) (n:=1) (z:=z) g2;rw [this,g2,Y8]
 have:=sD (P:=T.P) (X:=X) (S:=W) (d+opened) ho hu g1 g4 (by rw [g2];exact (hJ hs).2) Q2 (by unfold maxLen;omega) hq (cs:=dP fs) (L8 _ _ _ a (by rw [cC,hsz,g2])) hk (by show d+2000000≠1000000;omega) hd.dm (by rw [show Nat.ble opened (d+opened)=true from X8 (Nat.le_add_left _ _)];rfl);unfold eU;rw [f] at this ⊢;rw [g2,<- hsz] at this;exact this
theorem CW (hT:cN T=true) (hA:cK W rd rr) (hd:dU X o) (h:pn T F rd rr o=some R):eU T X W o R:=by
 have h0:=h;cases ho:o.op with
 | load t x=>exact FF hT hA hd ho h
 | store t x y=>exact CU hT hA hd ho h
 | fieldAddr t x i=>exact wa hT hA hd ho h
 | alloc t =>
  unfold pn at h;rw [ho] at h;dsimp only at h;split at h
  ·rename_i d c hdd hc;split at h
   ·rename_i fs hm hs hf hr;cases h;exact CZ hT hA hd ho hdd hc hs hf hr
   cases h
  cases h
 | build t ps =>
  unfold pn at h;rw [ho] at h;dsimp only at h;split at h
  ·rename_i d c hdd hc;split at h
   ·rename_i fs hm hp hf;split at h
    ·rename_i fs' hb;obtain ⟨k1,k2⟩:=CY hT hA hd ho hdd hc hp hf hb;split at h
     ·cases h;exact k1
     rename_i i hi;split at h
     ·rename_i o1 q y0 hat hnot hr;cases h;exact k2 i q o1 y0 _ hat hnot hr
     cases h
    cases h
   cases h
  cases h
 | buildSlice t n ps =>
  unfold pn at h;rw [ho] at h;dsimp only at h;split at h
  ·rename_i d e c x hdd hc hps;split at h
   ·rename_i fs hm hx hr;split at h
    ·rename_i hn hsz hs;cases h;rw [Qm] at hsz;exact CX hT hA hd ho hdd hc hps hx hr (Qt hn) (Qt hsz.1) (Qe hsz.2) hs
    cases h
   cases h
  cases h
 | _=>unfold pn at h;rw [ho] at h;cases h
end
section
variable {T:gU} {X:Ctx} {W:St} {o:Oper} {rd:Nat->Option df} {rr:Nat->Option (Option bZ)} {F:Nat} {R:E6}
theorem yS (hT:cN T=true) {t e:TypeId} {n:Nat} {c:Ty} (h:arc T t=some (e,n,c)):T.P.underlying t=some (.array n e)/\find T.ty t=some (.arr n c)/\vY T.P e c:=by
 unfold arc at h;split at h
 ·rename_i n' e' n2 c2 h1 h2;cases h;obtain ⟨g1,c',g2,g3⟩:=ar_m hT h1;rw [h2] at g2;cases g2;exact ⟨g1,h2,gf hT g3⟩
 cases h
theorem Gz {n:Nat} {i:Int} (h:0<=i/\i<(n:Int)):i.toNat % n=i.toNat:=XC Q2
theorem kJ {a b:Nat} (h:Nat.blt a b=true):a<b:=Qe h
theorem Cb {n i m:Nat} (h:i<n):i*m+m<=n*m:=by
 rw [<- Vi];exact QJ _ h
theorem CT (hT:cN T=true) (hA:cK W rd rr) (hd:dU X o) {t:TypeId} {x y:Operand} (ho:o.op = .indexAddr t x y) (h:iv T F rd rr o=some R) (hc:∀ c,R.c=some c->c.p):eU T X W o R:=by
 unfold iv at h;rw [ho] at h;dsimp only at h;split at h
 ·rename_i e n c k off p i ha hx hy;obtain ⟨hu,_,hM⟩:=yS hT ha;obtain ⟨f,g1,g2,_⟩:=hM.info;obtain ⟨kk,d⟩:=hA.int hy;split at h
  ·rename_i e' b y0 hk;split at h
   ·rename_i off' c' hat;split at h
    ·rename_i q hb hq hn;cases h;have hb:=beq_true hb;subst hb;have hq:=q.down;subst hq;rw [Qm] at hn;have j:=kJ hn.1;have g:=kJ hn.2;have a:=hc _ rfl;obtain ⟨_,_,_,hl⟩:=gZ b p y0 hat;simp only [Ty.sz] at hl;have hm:=Cb (m:=c.sz) (show i.toNat<n by omega);have:=DC (X:=X) ho hu g1 (hA.ev hx rfl) d (me hA hk) a.1 a.2 (by show _<(b.enc y0).length;rw [aX,g2];omega);rw [g2] at this;exact aU (R:=⟨_,.pa k off p n i c.sz,none⟩) rfl (by simp only [df.pv,Gz a]) this hd.dm
    cases h
   cases h
  cases h
 ·rename_i e n c c' l i ha hx hy;obtain ⟨hu,_,hM⟩:=yS hT ha;obtain ⟨f,g1,g2,_⟩:=hM.info;obtain ⟨kk,d⟩:=hA.int hy;split at h
  ·rename_i l2 hl hn;cases h;obtain ⟨rfl,rfl⟩:=di hl;have a:=hc _ rfl;have:=xK (X:=X) ho hu g1 (hA.ev hx rfl) d a.1 a.2;obtain ⟨k1,_⟩:=He (n:=n) l2 (i:=i) (kJ hn);rw [Gz a] at k1;rw [g2,k1] at this;exact aU rfl rfl this hd.dm
  cases h
 cases h
theorem DK {b c:Ty} {p:List Nat} {y:b.den} {off n:Nat} {i:Int} {ca:Ty} {l:ca.den} {l':(Ty.arr n c).den} (hat:l6 b p=some (off,.arr n c)) (hg:rV b p y=some (.v ca l)) (hl:fC (.arr n c) l=some l') (hn:0<n) :
 ((b.enc y).drop (off+i.toNat % n*c.sz)).take c.sz=c.enc (uI c.zero n l' i)/\off+i.toNat % n*c.sz+c.sz<=(b.enc y).length/\((b.enc y).drop off).take (n*c.sz)=(Ty.arr n c).enc l'/\off+n*c.sz<=(b.enc y).length:=by
 obtain ⟨z,h1,h2,h3⟩:=gZ b p y hat;rw [hg] at h1;cases h1;obtain ⟨e1,rfl⟩:=di hl;obtain ⟨k1,k2⟩:=He (n:=n) l' (i:=i) hn;have hm:=Cb (m:=c.sz) (X3 i.toNat hn);simp only [Ty.sz] at h2 h3;refine ⟨?_,by rw [aX];omega,h2,by rw [aX];exact h3⟩;rw [<- k1,<- h2,VM,Wv,W3,QO Q2]
theorem FD (hT:cN T=true) (hA:cK W rd rr) (hd:dU X o) {t:TypeId} {x:Operand} (ho:o.op = .load t x) (h:iv T F rd rr o=some R):eU T X W o R:=by
 unfold iv at h;rw [ho] at h;dsimp only at h;split at h
 ·rename_i c k off p n i sz hct hx;split at h
  ·rename_i e b y hk;split at h
   ·rename_i off' n' c' ca l hat hg;split at h
    ·rename_i l' q hb hl hq;cases h;simp only [Qm] at hb;obtain ⟨⟨⟨b1,b2⟩,b3⟩,b4⟩:=hb;have b1:=beq_true b1;have b2:=beq_true b2;have b3:=beq_true b3;have b4:=kJ b4;subst b1 b2 b3;have a:=q.down;subst a;obtain ⟨k1,k2,_⟩:=DK (i:=i) hat hg hl b4;exact aU rfl rfl (lS (gf hT hct) ho (hA.ev hx rfl) (me hA hk) k1 k2) hd.dm
    cases h
   cases h
  cases h
 cases h
theorem CQ (hT:cN T=true) (hA:cK W rd rr) (hd:dU X o) {t:TypeId} {x y:Operand} (ho:o.op = .store t x y) (h:iv T F rd rr o=some R):eU T X W o R:=by
 unfold iv at h;rw [ho] at h;dsimp only at h;split at h
 ·rename_i c k off p n i sz v hdst hct hx hy;split at h
  ·rename_i e b y0 u hk hu;split at h
   ·rename_i off' n' c' ca l hat hg;split at h
    ·rename_i l' u' hb hl hu';split at h
     ·rename_i y' hs;cases h;simp only [Qm] at hb;obtain ⟨⟨⟨b1,b2⟩,b3⟩,b4⟩:=hb;have b1:=beq_true b1;have b2:=beq_true b2;have b3:=beq_true b3;have b4:=kJ b4;subst b1 b2 b3;obtain ⟨rfl,e3⟩:=di hu';have e3:u'=u:=e3;subst e3;obtain ⟨k1,k2,k3,k4⟩:=DK (i:=i) hat hg hl b4;obtain ⟨_,s2⟩:=qY b p y0 hat hs;have s3:=IM (n:=n) l' (i:=i) u' hu' b4;have hm:=Cb (m:=c.sz) (X3 i.toNat b4);have s4:V.splice (b.enc y0) (off+i.toNat % n*c.sz) (c.enc u')=b.enc y':=by
       rw [uD _ off (n*c.sz) _ _ (by rw [aX];exact hm) k4,k3,s3,s2];unfold V.splice;rw [aX];rfl
      have:=pX (X:=X) (gf hT hct) ho hdst (hA.ev hx rfl) (me hA hk) (hA.ev hy (fF hu)) k2 s4;unfold eU;rw [hdst];exact this
     cases h
    cases h
   cases h
  cases h
 cases h
theorem KM (hT:cN T=true) (hA:cK W rd rr) (hd:dU X o) {t:TypeId} {x y:Operand} (ho:o.op = .index t x y) (h:iv T F rd rr o=some R) (hc:∀ c,R.c=some c->c.p):eU T X W o R:=by
 unfold iv at h;rw [ho] at h;dsimp only at h;split at h
 ·rename_i e n c v i ha hx hy;obtain ⟨hu,_,hM⟩:=yS hT ha;obtain ⟨k,g1,g2,_⟩:=hM.info;obtain ⟨kk,j⟩:=hA.int hy;split at h
  ·rename_i l hl hn hag;cases h;have a:=hc _ rfl;obtain ⟨cc,q1,q2⟩:=sJ hag (uI c.zero n l i);have hs:c.sz=1:=by rw [<- aX c (uI c.zero n l i),q1];rfl
   obtain ⟨ds,g,f⟩:=hM.Kl;have hp:=lW f hag;have d:=hA.ev hx (fF hl);rw [qk (t:=.arr n c) rfl] at d;obtain ⟨k1,k2⟩:=He (n:=n) l (i:=i) (kJ hn);rw [Gz a,hs,Vs] at k1 k2;have b:i.toNat<((Ty.arr n c).enc l).length:=Q2;rw [q1,QD b] at k1;simp only [List.take_succ_cons,List.take_zero,W5,YB] at k1;refine aU (R:=⟨_,.v c (uI c.zero n l i),none⟩) (p:=.cv cc) rfl (by simp only [df.pv,q2]) ?_ hd.dm;exact xJ (ds:=ds) ho hu g1 (by rw [g2,hs]) g (by cases ds<;>first | rfl | cases hp) d j a.1 a.2 (by rw [Qh b,k1])
  cases h
 cases h
theorem CS (hT:cN T=true) (hA:cK W rd rr) (hd:dU X o) {t:TypeId} {x:Operand} {lo hi:Option Operand} (ho:o.op = .slice t x lo hi none) (h:iv T F rd rr o=some R) (hc:∀ c,R.c=some c->c.p):eU T X W o R:=by
 unfold iv at h;rw [ho] at h;dsimp only at h;split at h
 ·rename_i e n c c' l ha hx;obtain ⟨hu,_,hM⟩:=yS hT ha;obtain ⟨f,g1,g2,_⟩:=hM.info;have d:∀ (g:(Ty.arr n c).den) (j:Int),fC (.arr n c) l=some g->bound W n hi=some j->lo=none->0<=j->j<=(n:Int)->Pure T.P X o W (Ty.pv (.list c) ((eN c.zero n g).take j.toNat)):=by
   intro g j hl hj hlo h0 h1;obtain ⟨rfl,rfl⟩:=di hl;subst hlo;have:=tO (X:=X) (l:=0) (h:=j) ho hu g1 (hA.ev hx rfl) (by rw [aX,g2];rfl) rfl hj (Vl _) h0 h1;rw [g2] at this;have e1:(Ty.arr n c).enc g=(eN c.zero n g).flatMap c.enc:=nW _ _ _ _;simp only [Int.toNat_zero,WZ,V9,Nat.sub_zero] at this;rw [e1,nU] at this;have e2:((eN c.zero n g).take j.toNat).length=j.toNat:=by rw [Qd,eH];omega
   show Pure T.P X o W (.cv (.row ((eN c.zero n g).take j.toNat).length (((eN c.zero n g).take j.toNat).flatMap c.enc)));rw [e2];exact this
  split at h
  ·rename_i g hi' hl;split at h
   ·rename_i j hj;cases h;have a:=hc _ rfl;exact aU rfl rfl (d g j hl (jk hA hj) rfl a.1 a.2) hd.dm
   cases h
  ·rename_i g hl;cases h;have:=d g n hl rfl rfl Q2 (Vl _);rw [Int.toNat_natCast,Qp (by rw [eH];exact Qn _)] at this;exact aU rfl rfl this hd.dm
  cases h
 ·rename_i e n c k ha hx;obtain ⟨hu,_,hM⟩:=yS hT ha;obtain ⟨f,g1,g2,_⟩:=hM.info;split at h
  ·rename_i e' b y hk;split at h
   ·rename_i q hq hn;cases h;have hq:=q.down;subst hq;exact aU (R:=⟨none,.wn k n,none⟩) rfl rfl (Bh ho hu g1 (hA.ev hx rfl) (me hA hk) rfl (kJ hn)) hd.dm
   cases h
  cases h
 cases h
theorem kj (q:IntKind):∀ l:List Int,l.flatMap (Ty.enc (.int q))=ints q l
 | []=>rfl
 | a :: l=>by rw [V7,kj q l];rfl
theorem EI (q:IntKind) (n:Nat) (l:List Int):(Ty.arr n (.int q)).enc l=ints q (eN (0:Int) n l):=by
 have e1:(Ty.arr n (.int q)).enc l=(eN (0:Int) n l).flatMap (Ty.enc (.int q)):=nW _ _ _ _;rw [e1,kj]
theorem KL (hT:cN T=true) (hA:cK W rd rr) (hd:dU X o) {op:BinOp} {t t':TypeId} {x y:Operand} (ho:o.op = .binOp op t x y t') (h:iv T F rd rr o=some R):eU T X W o R:=by
 unfold iv at h;rw [ho] at h;dsimp only at h;split at h
 ·rename_i e n q v v' ha hx hy;obtain ⟨hu,_,hM⟩:=yS hT ha;obtain ⟨f,g1,g2,_⟩:=hM.info;split at h
  ·rename_i l m hl hm hg;have d:=hA.ev hx (fF hl);have c:=hA.ev hy (fF hm);rw [qk (t:=.arr n (.int q)) rfl,EI] at d c;have a:∀ b,(op = .eql/\b=(eN (0:Int) n l==eN (0:Int) n m))∨(op = .neq/\b = !(eN (0:Int) n l==eN (0:Int) n m))->Pure T.P X o W (.cv (.lit (.bool b))):=fun b hb =>
    DB ho hu hM.int g1 (by rw [g2];rfl) hg d c (eH _ _ _) (eH _ _ _) hb
   split at h
   ·cases h;exact aU (R:=⟨none,.v .bool (eN (0:Int) n l==eN (0:Int) n m),none⟩) rfl rfl (a _ (.inl ⟨rfl,rfl⟩)) hd.dm
   ·cases h;exact aU (R:=⟨none,.v .bool (!(eN (0:Int) n l==eN (0:Int) n m)),none⟩) rfl rfl (a _ (.inr ⟨rfl,rfl⟩)) hd.dm
   cases h
  cases h
 cases h
theorem FE (hT:cN T=true) (hA:cK W rd rr) (hd:dU X o) {cl:Call} (ho:o.op = .call cl) (h:iv T F rd rr o=some R) (hc:∀ c,R.c=some c->c.p):eU T X W o R:=by
 unfold iv at h;rw [ho] at h;dsimp only at h;split at h
 ·rename_i hcl;split at h
  ·rename_i x y t t' hargs hts;split at h
   ·rename_i k n vy e q hx hy he;split at h
    ·rename_i e' b l m hk hm;split at h
     ·rename_i l2 hl hn;cases h;obtain ⟨rfl,rfl⟩:=di hl;obtain ⟨hu,hM,_⟩:=nX hT he;have a:l2.length=n:=hc _ rfl;obtain ⟨inf,z,g1,g2,g3,_⟩:=jr hM (rfl:gO (.int q)=true);have hi:Info T.P e z 1 inf.bytes:=by
       unfold Info;rw [g1];simp only [Option.map_some,g2,g3];rfl
      have row:∀ l:List Int,l.length=n->(bZ.box e' (.arr n (.int q)) l).row=dw e' q l:=by
       intro l hl;show (⟨e',1,n,(Ty.arr n (.int q)).enc l⟩:Row)=_;rw [EI,zQ _ _ _ hl];show (⟨e',1,n,ints q l⟩:Row)=⟨e',1,List.length l,ints q l⟩;rw [hl]
      have g:W.rows k=some (dw e' q l2):=by
       rw [<- row l2 a];exact me hA hk
      have i:ev W x=some (.win k 0 l2.length):=by rw [a];exact hA.ev hx rfl
      have j:=kJ hn;have:=G1 (X:=X) ho hcl (iQ hargs) (iQ hts) hu hi Q2 i g (show ev W y=some (.ints q m) from by
       have:=hA.ev hy (fF hm);have e1:Ty.pv (.list (.int q)) m = .ints q m:=by
        show PV.cv (.row m.length (m.flatMap (Ty.enc (.int q)))) = .cv (.row m.length (ints q m));rw [kj]
       rw [<- e1];exact this) hd.dm
      have f:(kN l2 m).length=n:=by
       simp only [kN,Qf,Qd,Qq];omega
      unfold eU;show cf T.P X o W (gQ (setRow W k (bZ.box e' (.arr n (.int q)) (kN l2 m)).row) o.dst (.v (.int .i64) (wx l2 m)));rw [row _ f];cases hdd:o.dst with
      | none=>rw [hdd] at this;exact this
      | some d=>rw [hdd] at this;exact this
     cases h
    cases h
   cases h
  cases h
 cases h
theorem xI {t e:TypeId} {len:Nat} {inf infe:TypeInfo} {z:Value} {ps:Array (Nat×Operand)} (ho:o.op = .build t ps) (hps:ps.toList=[]) (hu:T.P.underlying t=some (.array len e)) (hi:T.P.info? t=some inf) (hz:inf.zero=some z) (hie:T.P.info? e=some infe) {vs:Array Value} (hv:z = .agg vs):Pure T.P X o W (.ag (vs.toList.map ij)):=by
 intro L a w r;subst hv;have e0:ps = #[]:=iQ hps;refine ⟨.agg vs,?_,.ag Q3 (fun i hi=>?_)⟩
 ·simp [execOp,ho,e0,Instr.build,zeroValue,typeInfo,hi,hz,run_underlying hu,sizeOf,hie,Instr.fill,Value.cells]
 simp only [Qz,Array.getElem_toList];simp only [QZ,Array.length_toList] at hi;rw [Q9,Qg hi];exact jT _ _ _
theorem CR (hT:cN T=true) (hA:cK W rd rr) (hd:dU X o) (h:iv T F rd rr o=some R) (hc:∀ c,R.c=some c->c.p):eU T X W o R:=by
 cases ho:o.op with
 | indexAddr t x y=>exact CT hT hA hd ho h hc
 | load t x=>exact FD hT hA hd ho h
 | store t x y=>exact CQ hT hA hd ho h
 | index t x y=>exact KM hT hA hd ho h hc
 | binOp op t x y t'=>exact KL hT hA hd ho h
 | call c=>exact FE hT hA hd ho h hc
 | slice t x lo hi m =>
  cases m with
  | none=>exact CS hT hA hd ho h hc
  | some m=>unfold iv at h;rw [ho] at h;cases h
 | build t ps =>
  unfold iv at h;rw [ho] at h;dsimp only at h;split at h
  ·rename_i e n c ha hps;split at h
   ·rename_i hp;cases h;obtain ⟨hu,f,hMe⟩:=yS hT ha;have hM:=gf hT f;obtain ⟨b,g1,g2,g3⟩:=hM.info;obtain ⟨z,g4,g5,_,g7⟩:=g3 hp;obtain ⟨vs,a⟩:=g7 rfl;obtain ⟨g,ge,_⟩:=hMe.info;have:=xI (X:=X) (W:=W) ho hps hu g1 g4 ge a;refine aU (R:=⟨none,.v (.arr n c) (Ty.arr n c).zero,none⟩) rfl rfl ?_ hd.dm;rw [qk (t:=.arr n c) rfl,<- g5,a];exact this
   cases h
  cases h
 | makeMap t rv =>
  cases rv with
  | some r=>unfold iv at h;rw [ho] at h;cases h
  | none =>
   unfold iv at h;rw [ho] at h;dsimp only at h;split at h
   ·cases h;have:=Fm (P:=T.P) (X:=X) (S:=W) ho hd.dm;unfold eU;cases hdd:o.dst with
    | none=>rw [hdd] at this;exact this
    | some d=>rw [hdd] at this;exact this
   cases h
 | lookup t x y ok =>
  cases ok with
  | false=>unfold iv at h;rw [ho] at h;cases h
  | true =>
   unfold iv at h;rw [ho] at h;dsimp only at h;split at h
   ·rename_i l k hm hx hy;cases h;obtain ⟨kt,et,b,q1,q2,q3,q4⟩:=mp_m hT hm;have:=DA (X:=X) ho q1 q2 q3 q4 (hA.ev hx rfl) (hA.pR hy);refine aU (R:=⟨none,.tup (.pair (.int .i64) (.pair .bool .unit)) (qE l k),none⟩) rfl rfl ?_ hd.dm;have e:PV.tup (Ty.pvl (.pair (.int .i64) (.pair .bool .unit)) (qE l k)) = .tup [.cv (.lit (.int .i64 (match lD l k with | some x=>x.2 | none=>0))),.cv (.lit (.bool (lD l k).isSome))]:=by
     unfold qE;cases lD l k<;>rfl
    rw [e];exact this
   cases h
 | _=>unfold iv at h;rw [ho] at h;cases h
theorem C0 (hT:cN T=true) (hA:cK W rd rr) (hd:dU X o) (h:KN T F rd rr o=some R) (hc:∀ c,R.c=some c->c.p):eU T X W o R:=by
 unfold KN at h;split at h
 ·rename_i r hr;cases h;exact CW hT hA hd hr
 split at h
 ·rename_i r hr;cases h;exact CR hT hA hd hr hc
 exact Fu hT hA hd h hc
end
structure Sub (S:ES) (W:St):Prop where
 env:∀ t v p,find S.env t=some v->v.pv=some p->W.env t=some p
 rows:∀ k,W.rows k=(find S.rows k).map bZ.row
theorem pV (S:ES):Sub S S.st:=⟨fun t v p h h'=>by simp only [ES.st,h,Option.bind_some,h'],fun k=>rfl⟩
section
variable {T:gU} {X:Ctx} {S:ES} {W W':St} {o:Oper} {ops:List Oper} {lim:Option (List Meta)} {i:Nat} {l:List Oper} {q:St->Prop}
theorem qj {t:Nat} {v:df} (h:mh lim i S t=some v):find S.env t=some v:=by
 cases lim with
 | none=>exact h
 | some ms =>
  cases hm:ms[i]? with
  | none=>simp only [mh,hm] at h;cases h
  | some m =>
   simp only [mh,hm] at h;split at h
   ·split at h
    ·rename_i v' hv;split at h
     ·cases h;exact hv
     cases h
    cases h
   cases h
theorem Db {k:Nat} {x:Option bZ} (h:wb lim i S k=some x):∃ rf,x=(find S.rows k).map (sm rf):=by
 cases lim with
 | none =>
  cases h;refine ⟨none,?_⟩;cases find S.rows k<;>rfl
 | some ms =>
  cases hm:ms[i]? with
  | none=>simp only [wb,hm] at h;cases h
  | some m =>
   cases hb:mem m.rr k with
   | true=>simp only [wb,hm,hb] at h;cases h;exact ⟨m.rf,rfl⟩
   | false=>simp only [wb,hm,hb] at h;cases h
def E1 (l:List Nat):CV->CV
 | .own k=>match mem l k with
  | true=>.own k
  | false=>.any
 | c=>c
theorem nI {m:CV->CV} (hm:∀ c,gj c=true->m c=c) {cs:List CV} (h:cs.all gj=true):cs.map m=cs:=by
 conv=>rhs;rw [<- List.map_id cs]
 exact WA (fun c hc=>hm c (QA.1 h c hc))
theorem Kb (l:List Nat) (f:fj):(pA l f).enc=f.enc.map (E1 l):=by
 cases f with
 | v t x=>exact (nI (fun c hc=>by cases c<;>first | rfl | cases hc) (eS t x)).symm
 | own k =>
  simp only [pA,fj.enc,QV,WD,E1];cases mem l k<;>rfl
 | hole=>rfl
theorem E0 (l:List Nat) (f:fj):(pA l f).sz=f.sz:=by
 cases f with
 | v t x=>rfl
 | own k=>simp only [pA];cases mem l k<;>rfl
 | hole=>rfl
theorem MD (l:List Nat) (c:CV):lY (E1 l c) c:=by
 cases c with
 | own k =>
  simp only [E1];cases mem l k with
  | true=>exact mI _
  | false=>exact .inr ⟨k,rfl⟩
 | _=>exact mI _
theorem IG (rf:Option (List Nat)) (r:bZ):j4 (sm rf r).row r.row:=by
 cases rf with
 | none=>exact .refl _
 | some l =>
  cases r with
  | obox e fs =>
   refine ⟨rfl,?_,rfl,?_,fun i b c=>?_⟩
   ·exact (tZ (E0 l) fs).symm
   ·show (dP fs).length=(dP (ub (pA l) fs)).length;rw [cC,cC,tZ (E0 l) fs]
   have e1:dP (ub (pA l) fs)=(dP fs).map (E1 l):=ua (Kb l) fs;have a:i<(dP (ub (pA l) fs)).length:=b;show lY ((dP (ub (pA l) fs))[i]'a) ((dP fs)[i]'c);simp only [e1,Qz];exact MD l _
  | _=>exact .refl _
theorem sH (rf:Option (List Nat)) (q:Option bZ):rowAg (q.map bZ.row) (q.map (sm rf)):=by
 cases q with
 | none=>rfl
 | some r =>
  have h:=IG rf r;cases r with
  | obox e fs =>
   cases rf with
   | none=>exact ⟨_,rfl,.refl _⟩
   | some l=>exact ⟨_,rfl,h⟩
  | arr e t l=>cases rf<;>exact rfl
  | box e t x=>cases rf<;>exact rfl
theorem Sub.agree (h:Sub S W):cK W (mh lim i S) (wb lim i S):=⟨fun t v p a b=>h.env t v p (qj a) b,fun k x a=>by
 obtain ⟨rf,rfl⟩:=Db a;rw [h.rows k];exact sH rf _⟩
theorem Sub.put {d:Nat} {v:df} (h:Sub S W):Sub (S.put d v) (gQ W (some d) v):=by
 refine ⟨fun t u p a b=>?_,fun k=>?_⟩
 ·simp only [ES.put,find] at a;split at a
  ·rename_i hb;cases a;have:=beq_true hb;subst this;simp only [gQ,b,V.put];rw [Qk trivial]
  rename_i hb;have:=beq_false hb;have h3:=h.env t u p a b;cases hv:v.pv with
  | some p'=>simp only [gQ,hv,V.put];rw [Qc this];exact h3
  | none=>simp only [gQ,hv,V.drop];rw [Qc this];exact h3
 have:(gQ W (some d) v).rows=W.rows:=by cases hv:v.pv<;>simp only [gQ,hv]<;>rfl
 rw [this];exact h.rows k
theorem Sub.set {k:Nat} {r:bZ} (h:Sub S W):Sub (S.set k r) (setRow W k r.row):=by
 refine ⟨fun t u p b a=>h.env t u p b a,fun j=>?_⟩;simp only [setRow,ES.set,find]
 by_cases c:j=k
 ·subst c;rw [Qk rfl,Vv];rfl
 rw [Qc c];have:Nat.beq j k=false:=by
  cases hb:Nat.beq j k with
  | false=>rfl
  | true=>exact absurd (beq_true hb) c
 rw [this];exact h.rows j
theorem Sub.res {d:Option Nat} {v:df} {r:Option (Nat×bZ)} (h:Sub S W):Sub (S.res d v r) (gQ (qb W r) d v):=by
 have h1:Sub (match r with | some x=>S.set x.1 x.2 | none=>S) (qb W r):=by
  cases r with
  | none=>exact h
  | some x=>exact h.set
 unfold ES.res;cases d with
 | none=>exact h1
 | some d=>exact h1.put
theorem kY (h:Sub S W):∀ a w,Rel X W a w->Rel X S.st a w:=by
 intro a w hr;have e:W.rows=S.st.rows:=funext h.rows;refine hr.less (fun t p b=>?_) (fun k r b=>by rw [e];exact b) (fun t p _ w F L v hv=>by rw [e] at hv;exact hv) (fun j r b=>.inl ⟨r,by rw [<- e];exact b⟩);simp only [ES.st] at b;obtain ⟨v,h2,h3⟩:=Q5 b;exact h.env t v p h2 h3
def DrS (P:Program) (X:Ctx) (ops:Array Oper) (ms:List Meta):Nat->List Oper->St->(St->Prop)->Prop
 | _,[],W,q=>q W
 | i,o :: l,W,q=>∃ m s,ms[i]?=some m/\kQ s m=true/\vD s m/\s.fits W/\(∀ S0,s.fits S0->pf P X ops i S0 (s.go S0))/\DrS P X ops ms (i+1) l (s.go W) q
def GT (ops:List Oper) (o:Oper) (W:St):Prop:=o.guard=none∨∃ j w oj t,o.guard=some (j,w)/\ops[j]?=some oj/\oj.dst=some t/\W.env t=some (.bool w)
def GF (ops:List Oper) (o:Oper) (W:St):Prop:=∃ j w oj t,o.guard=some (j,w)/\ops[j]?=some oj/\oj.dst=some t/\(W.env t=some (.bool (!w))∨W.env t=some (.cv (.lit undef)))
inductive Fb (P:Program) (X:Ctx) (ops:List Oper):List Oper->St->(St->Prop)->Prop where
 | nil {W:St} {q:St->Prop} (h:q W):Fb P X ops [] W q
 | step {o:Oper} {l:List Oper} {W W':St} {q:St->Prop} (hg:GT ops o W) (h:cf P X o W W') (hd:dm X o.dst) (hl:Fb P X ops l W' q):Fb P X ops (o :: l) W q
 | skip {o:Oper} {l:List Oper} {W:St} {q:St->Prop} (hg:GF ops o W) (hd:dm X o.dst) (hl:Fb P X ops l (put W o.dst (.cv (.lit undef))) q):Fb P X ops (o :: l) W q
 | sC {l:List Oper} {W W':St} {q:St->Prop} (h:∀ a w,Rel X W a w->Rel X W' a w) (hl:Fb P X ops l W' q):Fb P X ops l W q
theorem NM {P:Program} {l l':List Oper} {W:St} {q:St->Prop} (h:Fb P X ops l W (fun W'=>Fb P X ops l' W' q)):Fb P X ops (l++l') W q:=by
 generalize hq:(fun W'=>Fb P X ops l' W' q)=q' at h
 induction h with
 | nil h=>subst hq;exact h
 | step hg h hd hl ih=>exact .step hg h hd (ih hq)
 | skip hg hd hl ih=>exact .skip hg hd (ih hq)
 | sC h hl ih=>exact .sC h (ih hq)
theorem NL {P:Program} {l:List Oper} {W:St} {q:St->Prop} (h:Fb P X ops l W q):eu P X ops.toArray l W q:=by
 induction h with
 | nil h=>exact ai h
 | step hg h hd hl ih =>
  rcases hg with hg | ⟨j,w,oj,t,h1,h2,h3,h4⟩
  ·exact dE hg h ih
  exact iU h1 (by simpa using h2) h3 h4 hd (fun _=>⟨h,ih⟩) (fun h=>absurd rfl h)
 | skip hg hd hl ih =>
  obtain ⟨j,w,oj,t,h1,h2,h3,h4⟩:=hg;rcases h4 with h4 | h4
  ·rename_i o l W q;exact iU (S':=W) h1 (by simpa using h2) h3 h4 hd (fun h=>by cases w<;>cases h) (fun _=>ih)
  exact p9 h1 (by simpa using h2) h3 h4 hd ih
 | sC h hl ih=>exact fun a w r=>ih a w (h a w r)
def Wk (P:Program) (X:Ctx) (ops:List Oper) (lim:Option (List Meta)) (i:Nat) (l:List Oper) (W:St) (q:St->Prop):Prop:=match lim with
 | none=>Fb P X ops l W q
 | some ms=>DrS P X ops.toArray ms i l W q
theorem Ko {P:Program} (h:q W):Wk P X ops lim i [] W q:=by
 cases lim with
 | none=>exact .nil h
 | some ms=>exact h
theorem Ix {P:Program} {ops:Array Oper} {ms:List Meta}:∀ (l l':List Oper) (i:Nat) (W:St),DrS P X ops ms i l W (fun W'=>DrS P X ops ms (i+l.length) l' W' q)->DrS P X ops ms i (l++l') W q
 | [],l',i,W,h=>h
 | o :: l,l',i,W,⟨m,s,h1,h2,h2',h3,h4,h5⟩=>⟨m,s,h1,h2,h2',h3,h4,Ix l l' (i+1) _ (by
  have e:i+(o :: l).length=i+1+l.length:=by simp;omega
  rw [e] at h5;exact h5)⟩
theorem wk_app {P:Program} {l':List Oper} (h:Wk P X ops lim i l W (fun W'=>Wk P X ops lim (i+l.length) l' W' q)):Wk P X ops lim i (l++l') W q:=by
 cases lim with
 | none=>exact NM h
 | some ms=>exact Ix l l' i W h
theorem Mh {P:Program} {ms:List Meta} (hlen:ms.length=ops.length):∀ (l:List Oper) (i:Nat) (W:St),i+l.length=ops.length->DrS P X ops.toArray ms i l W q->yY P X ops.toArray i (ms.drop i) W q
 | [],i,W,hi,h=>by
  rw [QG (by simp at hi;omega)];exact ⟨by simpa using hi,h⟩
 | o :: l,i,W,hi,⟨m,s,h1,h2,h2',h3,h4,h5⟩=>by
  simp only [List.length_cons] at hi;obtain ⟨hlt,rfl⟩:=Qx.1 h1;rw [QD hlt];exact ⟨s,h2,h2',h3,h4,Mh hlen l (i+1) _ Q2 h5⟩
def jV (T:gU) (ops:List Oper) (lim:Option (List Meta)) (i:Nat) (o:Oper):Prop:=match lim with
 | none=>True
 | some ms=>∃ m,ms[i]?=some m/\(∀ j w,o.guard=some (j,w)->∀ t,(ops[j]?).bind (·.dst)=some t->t∈m.rt)/\(∀ d,o.dst=some d->d∈m.wt)/\(m.kl=none∨(o.guard=none/\∃ t,u7 T o=some t))
theorem D3:∀ (l:List Oper) (ms:List Meta),wK T ops l ms=true->l.length=ms.length/\∀ i o,l[i]?=some o->jV T ops (some ms) i o
 | [],[],h=>⟨rfl,fun i o h=>by simp at h⟩
 | o :: l,m :: ms,h=>by
  simp only [wK,Qm] at h;obtain ⟨⟨⟨h1,h2⟩,h2'⟩,h3⟩:=h;obtain ⟨g1,g2⟩:=D3 l ms h3;refine ⟨by simp [g1],fun i o' hi=>?_⟩;cases i with
  | zero =>
   cases hi;refine ⟨m,rfl,fun j w hg t ht=>?_,fun d hd=>?_,?_⟩
   ·simp only [hg,ht] at h1;exact mem_iff.1 h1
   ·simp only [hd] at h2;exact mem_iff.1 h2
   cases hk:m.kl with
   | none=>exact .inl rfl
   | some k =>
    simp only [hk] at h2';split at h2'
    ·rename_i t hg hgd;exact .inr ⟨hgd,t,hg⟩
    cases h2'
  | succ i =>
   obtain ⟨m',k1,k2⟩:=g2 i o' (by simpa using hi);exact ⟨m',by simpa using k1,k2⟩
 | [],_ :: _,h=>by cases h
 | _ :: _,[],h=>by cases h
theorem tH (W:St) (d:Option Nat) (v:df) (r:Option (Nat×bZ)):ux (d.toList.map fun d=>(d,v.pv)) (r.toList.map fun x=>(x.1,some x.2.row)) W=gQ (qb W r) d v:=by
 have e1:∀ W:St,ux [] (r.toList.map fun x=>(x.1,some x.2.row)) W=qb W r:=by
  intro W;cases r<;>rfl
 rw [<- e1];cases d with
 | none=>rfl
 | some d=>cases hv:v.pv<;>simp only [gQ,hv]<;>rfl
theorem yE {α:Type} (e:Nat->α):∀ l:List Nat,fN (l.map fun t=>(t,e t)) e
 | []=>trivial
 | t :: l=>⟨rfl,yE e l⟩
theorem Nl {α:Type} (e:Nat->α) (l:List Nat):iF (l.map fun t=>(t,e t)) l=true:=by
 simp only [iF,QA,Qs];rintro x ⟨t,ht,rfl⟩;simpa using ht
theorem km {α:Type} {e:Nat->α}:∀ {l:List (Nat×α)},fN l e↔∀ x∈l,e x.1=x.2
 | []=>by simp [fN]
 | x :: l=>by simp [fN,km (l:=l)]
theorem CN {α:Type} {l:List (Nat×α)} {m:List Nat} (h:∀ x∈l,x.1∈m):iF l m=true:=by
 simp only [iF,QA];exact fun x hx=>by simpa using h x hx
theorem Cu {l:List Nat} {v:df} {p:PV} (h:Nc l v=true) (hp:v.pv=some p) (k:Nat) (hu:fA k p=true):k∈l:=by
 cases v with
 | v t x=>cases hp;rw [Az] at hu;cases hu
 | tup t x=>cases h
 | nilS=>cases hp;cases hu
 | undef=>cases hp;cases hu
 | any=>cases hp
 | own j=>cases hp;simp only [fA,W7] at hu;subst hu;exact mem_iff.1 h
 | po j off q=>cases hp;simp only [fA,W7] at hu;subst hu;exact mem_iff.1 h
 | pe j i sz off q=>cases hp;simp only [fA,W7] at hu;subst hu;exact mem_iff.1 h
 | pr t x=>cases hp;cases hu
 | st fs =>
  cases hp;simp only [Nc,QA] at h;exact mem_iff.1 (h k ((gG fs k).1 hu))
 | pa j off q n i sz=>cases hp;simp only [fA,W7] at hu;subst hu;exact mem_iff.1 h
 | wn j n=>cases hp;simp only [fA,W7] at hu;subst hu;exact mem_iff.1 h
 | mp l=>cases h
theorem K0 {l:List Nat} {r:bZ} (h:AW (some l) r=true):zW r.row.data l:=by
 intro k hk;cases r with
 | arr e t x=>rw [show (bZ.arr e t x).row.data=x.flatMap t.enc from rfl,ox (ki x)] at hk;cases hk
 | box e t x=>rw [show (bZ.box e t x).row.data=t.enc x from rfl,jD] at hk;cases hk
 | obox e fs =>
  simp only [AW,QA] at h;exact mem_iff.1 (h k ((gG fs k).1 hk))
theorem Ka (l:List Nat) (r:bZ):zW (sm (some l) r).row.data l:=by
 intro k hk;cases r with
 | arr e t x=>rw [show (sm (some l) (bZ.arr e t x)).row.data=x.flatMap t.enc from rfl,ox (ki x)] at hk;cases hk
 | box e t x=>rw [show (sm (some l) (bZ.box e t x)).row.data=t.enc x from rfl,jD] at hk;cases hk
 | obox e fs =>
  have h2:=(gG (ub (pA l) fs) k).1 hk;have a:∀ fs:List fj,k∈iX (ub (pA l) fs)->k∈l:=by
   intro fs
   induction fs with
   | nil=>intro h;cases h
   | cons f fs ih =>
    intro h;cases f with
    | v t x=>exact ih h
    | hole=>exact ih h
    | own j =>
     simp only [ub,pA] at h;cases hb:mem l j with
     | true =>
      simp only [hb,iX,Qo] at h;rcases h with h | h
      ·rw [h];exact mem_iff.1 hb
      exact ih h
     | false=>simp only [hb,iX] at h;exact ih h
  exact a fs h2
theorem Ed {d d':Row} (h:j4 d d') (hc:∀ c∈d.data,c≠.any):d'=d:=by
 have e1:d'.data=d.data:=by
  apply QP h.len;intro i h1 h2;exact Ar (h.le i h2 h1) (hc _ (Qi h2))
 cases d;cases d';obtain ⟨e,sz,n,len,le⟩:=h;cases e;cases sz;cases n;cases e1;rfl
theorem zH {r:bZ} (h:∀ e fs,r≠.obox e fs):∀ c∈r.row.data,c≠.any:=by
 cases r with
 | arr e t l =>
  intro c hc;obtain ⟨x,_,hx⟩:=Wp.1 (show c∈l.flatMap t.enc from hc);exact kn t x c hx
 | box e t x=>exact kn t x
 | obox e fs=>exact absurd rfl (h e fs)
theorem reads {ms:List Meta} {m:Meta} {l:List Nat} (c:ms[i]?=some m) (hrf:m.rf=some l) (hs:Sub S W) (g:List (Nat×Option PV)) (hg:∀ x∈g,x.1∈m.rt/\∃ p,x.2=some p/\(∀ k,fA k p=false)/\W.env x.1=some p) :
 ∃ (rT:List (Nat×Option PV)) (rR:List (Nat×Option Row)) (rS:List (Nat×Row)),iF rT m.rt=true/\iF rR m.rr=true/\(∀ x∈rS,x.1∈m.rr)/\(∀ x∈rT,∃ p,x.2=some p/\∀ k,fA k p=true->k∈l)/\(∀ x∈rR,Nat.ble opened x.1=true->x.2=none)/\(∀ x∈rS,zW x.2.data l) /\
  fN rT W.env/\fN rR W.rows/\(∀ x∈rS,∃ d,W.rows x.1=some d/\j4 x.2 d) /\
  ∀ S0:St,fN rT S0.env->fN rR S0.rows->(∀ x∈rS,∃ d,S0.rows x.1=some d/\j4 x.2 d)->cK S0 (mh (some ms) i S) (wb (some ms) i S)/\∀ x∈g,S0.env x.1=x.2:=by
 refine ⟨g++m.rt.filterMap (fun t=>((mh (some ms) i S t).bind df.pv).map fun p=>(t,some p)),m.rr.filterMap (fun k=>match Nat.ble opened k&&(find S.rows k).isSome with | true=>none | false=>some (k,W.rows k)),m.rr.filterMap (fun k=>match Nat.ble opened k with | true=>(find S.rows k).map fun r=>(k,(sm (some l) r).row) | false=>none),?_,?_,?_,?_,?_,?_,?_,?_,?_,?_⟩
 ·refine CN (fun x hx=>?_);rcases QT.1 hx with hx | hx
  ·exact (hg x hx).1
  obtain ⟨t,ht,h2⟩:=Vr.1 hx;obtain ⟨p,_,rfl⟩:=Qr.1 h2;exact ht
 ·refine CN (fun x hx=>?_);obtain ⟨k,hk,h2⟩:=Vr.1 hx;split at h2
  ·cases h2
  cases h2;exact hk
 ·intro x hx;obtain ⟨k,hk,h2⟩:=Vr.1 hx;split at h2
  ·obtain ⟨r,_,rfl⟩:=Qr.1 h2;exact hk
  cases h2
 ·intro x hx;rcases QT.1 hx with hx | hx
  ·obtain ⟨_,p,h2,h3,_⟩:=hg x hx;exact ⟨p,h2,fun k hk=>by rw [h3 k] at hk;cases hk⟩
  obtain ⟨t,ht,h2⟩:=Vr.1 hx;obtain ⟨p,h3,rfl⟩:=Qr.1 h2;obtain ⟨v,h4,h5⟩:=Q5 h3;refine ⟨p,rfl,fun k hk=>?_⟩;have hv:Nc l v=true:=by
   simp only [mh,c] at h4;split at h4
   ·split at h4
    ·rename_i v' hv';split at h4
     ·rename_i hvis;cases h4;rw [hrf] at hvis;exact hvis
     cases h4
    cases h4
   cases h4
  exact Cu hv h5 k hk
 ·intro x hx ho;obtain ⟨k,hk,h2⟩:=Vr.1 hx;split at h2
  ·cases h2
  rename_i hb;cases h2;rw [ho,Wr] at hb;show W.rows k=none;rw [hs.rows];cases hf:find S.rows k with
  | none=>rfl
  | some r=>rw [hf] at hb;cases hb
 ·intro x hx;obtain ⟨k,hk,h2⟩:=Vr.1 hx;split at h2
  ·obtain ⟨r,_,rfl⟩:=Qr.1 h2;exact Ka l r
  cases h2
 ·refine km.2 (fun x hx=>?_);rcases QT.1 hx with hx | hx
  ·obtain ⟨_,p,h2,_,h4⟩:=hg x hx;rw [h2];exact h4
  obtain ⟨t,ht,h2⟩:=Vr.1 hx;obtain ⟨p,h3,rfl⟩:=Qr.1 h2;obtain ⟨v,h4,h5⟩:=Q5 h3;exact hs.env t v p (qj h4) h5
 ·refine km.2 (fun x hx=>?_);obtain ⟨k,hk,h2⟩:=Vr.1 hx;split at h2
  ·cases h2
  cases h2;rfl
 ·intro x hx;obtain ⟨k,hk,h2⟩:=Vr.1 hx;split at h2
  ·obtain ⟨r,hr,rfl⟩:=Qr.1 h2;exact ⟨r.row,by rw [hs.rows,hr];rfl,IG (some l) r⟩
  cases h2
 intro S0 f1 f2 f3;have f1:=km.1 f1;have f2:=km.1 f2;refine ⟨⟨fun t v p hv hp=>?_,fun k x hx=>?_⟩,fun x hx=>f1 x (Ww _ hx)⟩
 ·have a:t∈m.rt:=by
   simp only [mh,c] at hv;split at hv
   ·rename_i hb;exact mem_iff.1 hb
   cases hv
  exact f1 (t,some p) (WK _ (Vr.2 ⟨t,a,by rw [hv];simp only [Option.bind_some,hp,Option.map_some]⟩))
 have a:k∈m.rr:=by
  simp only [wb,c] at hx;split at hx
  ·rename_i hb;exact mem_iff.1 hb
  cases hx
 have b:x=(find S.rows k).map (sm (some l)):=by
  simp only [wb,c,hrf] at hx;split at hx
  ·cases hx;rfl
  cases hx
 subst b;cases hf:find S.rows k with
 | none =>
  have:=f2 (k,W.rows k) (Vr.2 ⟨k,a,by rw [hf];simp only [Option.isSome_none,Bool.and_false]⟩);show S0.rows k=none;rw [show S0.rows k=W.rows k from this,hs.rows,hf];rfl
 | some r =>
  cases ho:Nat.ble opened k with
  | true =>
   obtain ⟨d,g1,g2⟩:=f3 (k,(sm (some l) r).row) (Vr.2 ⟨k,a,by rw [ho,hf];rfl⟩);have g1:S0.rows k=some d:=g1;rw [g1];cases r with
   | obox e fs=>exact ⟨d,rfl,g2⟩
   | arr e t x=>exact congrArg some (Ed g2 (zH (r:=.arr e t x) (fun _ _ h=>by cases h)))
   | box e t x=>exact congrArg some (Ed g2 (zH (r:=.box e t x) (fun _ _ h=>by cases h)))
  | false =>
   have:=f2 (k,W.rows k) (Vr.2 ⟨k,a,by rw [ho];rfl⟩);rw [show S0.rows k=W.rows k from this,hs.rows,hf];exact sH (some l) (some r)
theorem rp {P:Program} {v:df} {r:Option (Nat×bZ)} (hi:ops[i]?=some o) (hm:jV T ops lim i o) (hs:Sub S W) (hg:GT ops o W) (hd:dm X o.dst) (hr:zI lim none i r=true) (hv:ni lim i v=true)
 (h:∀ W0,cK W0 (mh lim i S) (wb lim i S)->cf P X o W0 (gQ (qb W0 r) o.dst v)) (hl:Wk P X ops lim (i+1) l (gQ (qb W r) o.dst v) q):Wk P X ops lim i (o :: l) W q:=by
 cases lim with
 | none=>exact .step hg (h W hs.agree) hd hl
 | some ms =>
  obtain ⟨m,h1,h2,h3,_⟩:=hm;simp only [ni,h1] at hv;split at hv
  case h_2=>cases hv
  rename_i hkl;have kW:iF (o.dst.toList.map fun d=>(d,v.pv)) m.wt=true:=by
   cases hdd:o.dst with
   | none=>rfl
   | some d=>simpa [iF] using h3 d hdd
  have kR:iF (r.toList.map fun x=>(x.1,some x.2.row)) m.wr=true/\∀ x,r=some x->AW m.rf x.2=true:=by
   cases r with
   | none=>exact ⟨rfl,fun x h=>by cases h⟩
   | some x =>
    simp only [zI,h1,Qm] at hr;exact ⟨by simpa [iF] using mem_iff.1 hr.1,fun y hy=>by cases hy;exact hr.2⟩
  cases hrf:m.rf with
  | none =>
   refine ⟨m,⟨m.rt.map fun t=>(t,W.env t),m.rr.map fun k=>(k,W.rows k),o.dst.toList.map fun d=>(d,v.pv),r.toList.map fun x=>(x.1,some x.2.row),[],none⟩,h1,?_,⟨hkl.symm,(fun x hx=>by cases hx),(fun l hl=>by rw [hrf] at hl;cases hl)⟩,⟨yE _ _,yE _ _,(fun x hx=>by cases hx)⟩,fun S0 hf=>?_,?_⟩
   ·simp only [kQ,Nl,Wr,Qm];exact ⟨kW,kR.1⟩
   ·have f1:=km.1 hf.rT;have f2:=km.1 hf.rR;have e1:∀ t∈m.rt,S0.env t=W.env t:=fun t ht=>f1 (t,W.env t) (Qs.2 ⟨t,ht,rfl⟩);have e2:∀ k∈m.rr,S0.rows k=W.rows k:=fun k hk=>f2 (k,W.rows k) (Qs.2 ⟨k,hk,rfl⟩);have hA:cK S0 (mh (some ms) i S) (wb (some ms) i S):=by
     refine ⟨fun t u p n s=>?_,fun k x n=>?_⟩
     ·have a:t∈m.rt:=by
       simp only [mh,h1] at n;split at n
       ·rename_i hb;exact mem_iff.1 hb
       cases n
      rw [e1 t a];exact hs.env t u p (qj n) s
     have a:k∈m.rr:=by
      simp only [wb,h1] at n;split at n
      ·rename_i hb;exact mem_iff.1 hb
      cases n
     obtain ⟨rf,rfl⟩:=Db n;rw [e2 k a,hs.rows];exact sH rf _
    have b:=h S0 hA;have e:gQ (qb S0 r) o.dst v=wz.go ⟨m.rt.map fun t=>(t,W.env t),m.rr.map fun k=>(k,W.rows k),o.dst.toList.map fun d=>(d,v.pv),r.toList.map fun x=>(x.1,some x.2.row),[],none⟩ S0:=(tH _ _ _ _).symm;rcases hg with hg | ⟨j,w,oj,t,n,s,g3,g4⟩
    ·exact bG (by simpa using hi) hg b e
    have a:t∈m.rt:=h2 j w n t (by rw [s];exact g3);exact vE (by simpa using hi) n (by simpa using s) g3 (b':=w) (by rw [e1 t a];exact g4) rfl b e
   have e:wz.go ⟨m.rt.map fun t=>(t,W.env t),m.rr.map fun k=>(k,W.rows k),o.dst.toList.map fun d=>(d,v.pv),r.toList.map fun x=>(x.1,some x.2.row),[],none⟩ W=gQ (qb W r) o.dst v:=tH _ _ _ _;rw [e];exact hl
  | some l0 =>
   rw [hrf] at hv kR;obtain ⟨g,hg1,hg2⟩:∃ g:List (Nat×Option PV),(∀ x∈g,x.1∈m.rt/\∃ p,x.2=some p/\(∀ k,fA k p=false)/\W.env x.1=some p)/\(o.guard=none∨∃ j w oj t,o.guard=some (j,w)/\ops[j]?=some oj/\oj.dst=some t/\(t,some (PV.bool w))∈g):=by
    rcases hg with hg | ⟨j,w,oj,t,n,s,g3,g4⟩
    ·exact ⟨[],(fun x hx=>by cases hx),.inl hg⟩
    refine ⟨[(t,some (PV.bool w))],fun x hx=>?_,.inr ⟨j,w,oj,t,n,s,g3,QB.2 rfl⟩⟩;rw [QB.1 hx];exact ⟨h2 j w n t (by rw [s];exact g3),_,rfl,fun _=>rfl,g4⟩
   obtain ⟨rT,rR,rS,q1,q2,q3,q4,q5,q6,q7,q8,q9,f⟩:=reads h1 hrf hs g hg1;refine ⟨m,⟨rT,rR,o.dst.toList.map fun d=>(d,v.pv),r.toList.map fun x=>(x.1,some x.2.row),rS,none⟩,h1,?_,⟨hkl.symm,q3,fun l hl=>?_⟩,⟨q7,q8,q9⟩,fun S0 hf=>?_,?_⟩
   ·simp only [kQ,q1,q2,Wr,Qm];exact ⟨kW,kR.1⟩
   ·rw [hrf] at hl;cases hl;refine ⟨q4,q5,q6,fun x hx p hp k hk=>?_,fun x hx d hd' ho=>?_⟩
    ·obtain ⟨dd,_,rfl⟩:=Qs.1 hx;exact Cu hv hp k hk
    obtain ⟨y,hy,rfl⟩:=Qs.1 hx;cases hd';cases r with
    | none=>cases hy
    | some z =>
     simp only [Option.toList_some,QB] at hy;subst hy;exact K0 (kR.2 _ rfl)
   ·obtain ⟨hA,c⟩:=f S0 hf.rT hf.rR hf.rS;have b:=h S0 hA;have e:gQ (qb S0 r) o.dst v=wz.go ⟨rT,rR,o.dst.toList.map fun d=>(d,v.pv),r.toList.map fun x=>(x.1,some x.2.row),rS,none⟩ S0:=(tH _ _ _ _).symm;rcases hg2 with hg | ⟨j,w,oj,t,n,s,g3,g4⟩
    ·exact bG (by simpa using hi) hg b e
    exact vE (by simpa using hi) n (by simpa using s) g3 (b':=w) (c _ g4) rfl b e
   have e:wz.go ⟨rT,rR,o.dst.toList.map fun d=>(d,v.pv),r.toList.map fun x=>(x.1,some x.2.row),rS,none⟩ W=gQ (qb W r) o.dst v:=tH _ _ _ _;rw [e];exact hl
theorem Ho {P:Program} {j d:Nat} {R:Row} (hi:ops[i]?=some o) (hm:jV T ops lim i o) (hs:Sub S W) (hg:o.guard=none) (hd:dm X o.dst) (hdd:o.dst=some d) (ha:Au lim i j=true) (hj:Nat.ble opened j=false)
 (h:∀ W0,cK W0 (mh lim i S) (wb lim i S)->cf P X o W0 (put (setRow (kill W0 j) j R) o.dst (.own j))) (hl:Wk P X ops lim (i+1) l (put (setRow (kill W j) j R) o.dst (.own j)) q):Wk P X ops lim i (o :: l) W q:=by
 cases lim with
 | none=>exact .step (.inl hg) (h W hs.agree) hd hl
 | some ms =>
  obtain ⟨m,h1,h2,h3,_⟩:=hm;simp only [Au,h1] at ha;split at ha
  case h_2=>cases ha
  rename_i k l0 hkl hrf;simp only [Qm] at ha;obtain ⟨⟨a1,a2⟩,a3⟩:=ha;have a1:=beq_true a1;subst a1;obtain ⟨rT,rR,rS,q1,q2,q3,q4,q5,q6,q7,q8,q9,a⟩:=reads h1 hrf hs [] (fun x hx=>by cases hx);have e:∀ S0,wz.go ⟨rT,rR,[(d,some (.own k))],[(k,some R)],rS,some k⟩ S0=put (setRow (kill S0 k) k R) o.dst (.own k):=by
   intro S0;rw [hdd];refine pY (funext fun t=>rfl) (funext fun t=>rfl)
  refine ⟨m,⟨rT,rR,[(d,some (.own k))],[(k,some R)],rS,some k⟩,h1,?_,⟨hkl.symm,q3,fun l hl=>?_⟩,⟨q7,q8,q9⟩,fun S0 hf=>?_,?_⟩
  ·simp only [kQ,q1,q2,Wr,Qm];exact ⟨by simpa [iF] using h3 d hdd,by simpa [iF] using mem_iff.1 a2⟩
  ·rw [hrf] at hl;cases hl;refine ⟨q4,q5,q6,fun x hx p hp u hu=>?_,fun x hx d' hd' ho=>?_⟩
   ·rw [QB.1 hx] at hp;cases hp;simp only [fA,W7] at hu;rw [<- hu];exact mem_iff.1 a3
   rw [QB.1 hx] at ho;rw [hj] at ho;cases ho
  ·obtain ⟨hA,_⟩:=a S0 hf.rT hf.rR hf.rS;exact bG (by simpa using hi) hg (h S0 hA) (e S0).symm
  rw [e];exact hl
theorem M8 {P:Program} {j d:Nat} {c:CV} (hc:gj c=true) (hi:ops[i]?=some o) (hm:jV T ops lim i o) (hs:Sub S W) (hg:o.guard=none) (hd:dm X o.dst) (hdd:o.dst=some d) (ha:Au lim i j=true)
 (h:∀ W0,cK W0 (mh lim i S) (wb lim i S)->cf P X o W0 (put (jS W0 j) o.dst (.cv c))) (hl:Wk P X ops lim (i+1) l (put (jS W j) o.dst (.cv c)) q):Wk P X ops lim i (o :: l) W q:=by
 cases lim with
 | none=>exact .step (.inl hg) (h W hs.agree) hd hl
 | some ms =>
  obtain ⟨m,h1,h2,h3,_⟩:=hm;simp only [Au,h1] at ha;split at ha
  case h_2=>cases ha
  rename_i k l0 hkl hrf;simp only [Qm] at ha;obtain ⟨⟨a1,a2⟩,a3⟩:=ha;have a1:=beq_true a1;subst a1;obtain ⟨rT,rR,rS,q1,q2,q3,q4,q5,q6,q7,q8,q9,a⟩:=reads h1 hrf hs [] (fun x hx=>by cases hx);have e:∀ S0,wz.go ⟨rT,rR,[(d,some (.cv c))],[(k,none)],rS,some k⟩ S0=put (jS S0 k) o.dst (.cv c):=by
   intro S0;rw [hdd];refine pY (funext fun t=>rfl) (funext fun t=>rfl)
  refine ⟨m,⟨rT,rR,[(d,some (.cv c))],[(k,none)],rS,some k⟩,h1,?_,⟨hkl.symm,q3,fun l hl=>?_⟩,⟨q7,q8,q9⟩,fun S0 hf=>?_,?_⟩
  ·simp only [kQ,q1,q2,Wr,Qm];exact ⟨by simpa [iF] using h3 d hdd,by simpa [iF] using mem_iff.1 a2⟩
  ·rw [hrf] at hl;cases hl;refine ⟨q4,q5,q6,fun x hx p hp u hu=>?_,fun x hx d' hd' ho=>?_⟩
   ·rw [QB.1 hx] at hp;cases hp;cases c with
    | own q=>cases hc
    | _=>cases hu
   rw [QB.1 hx] at hd';cases hd'
  ·obtain ⟨hA,_⟩:=a S0 hf.rT hf.rR hf.rS;exact bG (by simpa using hi) hg (h S0 hA) (e S0).symm
  rw [e];exact hl
theorem M7 {P:Program} (hi:ops[i]?=some o) (hm:jV T ops lim i o) (hg:GF ops o W) (hd:dm X o.dst) (hl:Wk P X ops lim (i+1) l (put W o.dst (.cv (.lit undef))) q):Wk P X ops lim i (o :: l) W q:=by
 cases lim with
 | none=>exact .skip hg hd hl
 | some ms =>
  obtain ⟨m,h1,h2,h3,h4⟩:=hm;obtain ⟨j,w,oj,t,g1,g2,g3,g4⟩:=hg;have a:t∈m.rt:=h2 j w g1 t (by rw [g2];exact g3);have hkl:m.kl=none:=h4.resolve_right (fun h=>by rw [g1] at h;cases h.1);have e:∀ W0:St,wz.go ⟨[(t,W.env t)],[],o.dst.toList.map fun d=>(d,df.undef.pv),[],[],none⟩ W0=put W0 o.dst (.cv (.lit undef)):=by
   intro W0;cases hdd:o.dst<;>rfl
  refine ⟨m,⟨[(t,W.env t)],[],o.dst.toList.map fun d=>(d,df.undef.pv),[],[],none⟩,h1,?_,⟨hkl.symm,(fun x hx=>by cases hx),fun l0 _=>⟨fun x hx=>?_,(fun x hx=>by cases hx),(fun x hx=>by cases hx),fun x hx p hp k hk=>?_,(fun x hx=>by cases hx)⟩⟩,⟨⟨rfl,trivial⟩,trivial,(fun x hx=>by cases hx)⟩,fun S0 hf=>?_,by rw [e];exact hl⟩
  ·simp only [kQ,Qm];refine ⟨⟨⟨by simpa [iF] using a,rfl⟩,?_⟩,rfl⟩;cases hdd:o.dst with
   | none=>rfl
   | some d=>simpa [iF] using h3 d hdd
  ·rw [QB.1 hx];rcases g4 with g4 | g4
   ·exact ⟨_,g4,fun k hk=>by cases hk⟩
   exact ⟨_,g4,fun k hk=>by cases hk⟩
  ·obtain ⟨dd,_,rfl⟩:=Qs.1 hx;cases hp;cases hk
  have he:S0.env t=W.env t:=hf.rT.1;rcases g4 with g4 | g4
  ·exact AL (by simpa using hi) g1 (by simpa using g2) g3 (by rw [he];exact g4) rfl hd (e _).symm
  exact AK (by simpa using hi) g1 (by simpa using g2) g3 (by rw [he];exact g4) hd (e _).symm
end
section
variable {T:gU} {X:Ctx} {S:ES} {W W':St} {o:Oper}
theorem nV {α:Type} (f:α->α):∀ (l:List (Nat×α)) (t:Nat),find (rU f l) t=(find l t).map f
 | [],t=>rfl
 | x :: l,t=>by
  simp only [rU,find];split
  ·rfl
  exact nV f l t
theorem oX {α:Type} (k:Nat):∀ (l:List (Nat×α)) (t:Nat),find (lV k l) t=if t=k then none else find l t
 | [],t=>by simp [lV,find]
 | x :: l,t=>by
  simp only [lV];split
  ·rename_i h;have h:=beq_true h;rw [oX k l t];simp only [find]
   by_cases c:t=k
   ·rw [Qk c,Qk c]
   rw [Qc c,Qc c];split
   ·rename_i h2;exact absurd ((beq_true h2).trans h) c
   rfl
  rename_i h;have h:=beq_false h;simp only [find];split
  ·rename_i h2;have h2:=beq_true h2;rw [Qc Q2]
  exact oX k l t
theorem rK (g:fj->fj):∀ (l:List (Nat×bZ)) (t:Nat),find (sQ g l) t=(find l t).map (qx g t)
 | [],t=>rfl
 | x :: l,t=>by
  simp only [sQ,find];split
  ·rename_i h;rw [beq_true h];rfl
  exact rK g l t
theorem J3 {k:Nat} {e:TypeId} {t:Ty} {l:List t.den} (v:df) (hw:∀ j n,v = .wn j n->j≠k):(rW k t l v).pv=v.pv.bind (conv k (bZ.arr e t l).row):=by
 cases v with
 | own j =>
  cases hb:Nat.beq j k with
  | true=>simp only [rW,hb,df.pv,Option.bind_some,conv];rw [Qk (beq_true hb)];rfl
  | false=>simp only [rW,hb,df.pv,Option.bind_some,conv];rw [Qc (beq_false hb)]
 | po j off p =>
  cases hb:Nat.beq j k with
  | true=>simp only [rW,hb,df.pv,Option.bind_some,conv];rw [Qk (beq_true hb)]
  | false=>simp only [rW,hb,df.pv,Option.bind_some,conv];rw [Qc (beq_false hb)]
 | pe j i sz off p =>
  cases hb:Nat.beq j k with
  | true=>simp only [rW,hb,df.pv,Option.bind_some,conv];rw [Qk (beq_true hb)]
  | false=>simp only [rW,hb,df.pv,Option.bind_some,conv];rw [Qc (beq_false hb)]
 | pa j off p n i sz =>
  cases hb:Nat.beq j k with
  | true=>simp only [rW,hb,df.pv,Option.bind_some,conv];rw [Qk (beq_true hb)]
  | false=>simp only [rW,hb,df.pv,Option.bind_some,conv];rw [Qc (beq_false hb)]
 | wn j n =>
  cases hb:Nat.beq j k with
  | true=>exact absurd (beq_true hb) (hw j n rfl)
  | false=>simp only [rW,hb,df.pv,Option.bind_some,conv];rw [Qc (beq_false hb)]
 | v c x =>
  show some (c.pv x)=conv k _ (c.pv x)
  have hu:=Az c x k;cases c with
  | pair a b =>
   have hu:(Ty.enc (.pair a b) x).any (iN k)=false:=hu;show some (PV.ag (Ty.enc (.pair a b) x))=(bif (Ty.enc (.pair a b) x).any (iN k) then none else some (PV.ag (Ty.enc (.pair a b) x)));rw [hu];rfl
  | arr n e =>
   have hu:(Ty.enc (.arr n e) x).any (iN k)=false:=hu;show some (PV.ag (Ty.enc (.arr n e) x))=(bif (Ty.enc (.arr n e) x).any (iN k) then none else some (PV.ag (Ty.enc (.arr n e) x)));rw [hu];rfl
  | _=>rfl
 | st fs =>
  cases hb:mem (iX fs) k with
  | true =>
   have:(dP fs).any (iN k)=true:=(gG fs k).2 (mem_iff.1 hb);simp only [rW,hb,df.pv,Option.bind_some,conv,this,cond_true]
  | false=>simp only [rW,hb,df.pv,Option.bind_some,conv,zV hb,cond_false]
 | _=>rfl
theorem Mt {k:Nat} {e:TypeId} {t:Ty} {l:List t.den} (v:df) {p:PV} (h:(rW k t l v).pv=some p):v.pv.bind (conv k (bZ.arr e t l).row)=some p:=by
 rw [<- J3 v (fun j n hv hj=>?_)]
 ·exact h
 subst hv hj;simp only [rW,Vv,df.pv] at h;cases h
theorem DO {k:Nat} {e:TypeId} {t:Ty} {l:List t.den} (j:Nat) (r:bZ):(qx (G3 k t l) j r).row=jU k (bZ.arr e t l).row j r.row:=by
 have a:∀ (d:Row),d.data.all gj=true->jU k (bZ.arr e t l).row j d=d:=by
  intro d hd;unfold jU;cases Nat.ble opened j with
  | false=>rfl
  | true =>
   simp only [cond_true];rw [nI (fun c hc=>by cases c<;>first | rfl | cases hc) hd]
 cases r with
 | arr e2 t2 l2=>exact (a _ (ki l2)).symm
 | box e2 t2 x2=>exact (a _ (eS t2 x2)).symm
 | obox e2 fs =>
  cases ho:Nat.ble opened j with
  | false=>simp only [qx,jU,ho,cond_false]
  | true =>
   simp only [qx,jU,ho,cond_true,bZ.row];have h1:∀ f:fj,(G3 k t l f).enc=f.enc.map (As k (bZ.arr e t l).row):=by
    intro f;cases f with
    | v c x=>exact (nI (fun c hc=>by cases c<;>first | rfl | cases hc) (eS c x)).symm
    | own q =>
     simp only [G3,fj.enc,QV,WD,As];cases Nat.beq q k<;>rfl
    | hole=>rfl
   have h2:∀ f:fj,(G3 k t l f).sz=f.sz:=by
    intro f;cases f with
    | own q=>simp only [G3];cases Nat.beq q k<;>rfl
    | _=>rfl
   rw [tZ h2,ua h1];rfl
theorem Of (k:Nat):∀ a w,Rel X S.st a w->Rel X (S.frz k).st a w:=by
 intro a w h;unfold ES.frz;split
 ·rename_i e t l hk;split
  ·exact h
  rename_i hb;rw [W9] at hb;have h2:=dF (S:=S.st) (k:=k) (d:=(bZ.arr e t l).row) (by simp only [ES.st,hk,Option.map_some]) (beq_false hb.1) hb.2 a w h;have e1:Sub ⟨rU (rW k t l) S.env,sQ (G3 k t l) (lV k S.rows)⟩ (V.freeze S.st k (bZ.arr e t l).row):=by
   refine ⟨fun u v p b f=>?_,fun j=>?_⟩
   ·simp only [nV] at b;obtain ⟨v0,f3,rfl⟩:=Qr.1 b;have:=Mt (e:=e) v0 f;simp only [V.freeze,ES.st,f3,Option.bind_some];exact this
   simp only [V.freeze,ES.st,rK,oX]
   by_cases c:j=k
   ·rw [Qk c,Qk c];rfl
   rw [Qc c,Qc c];cases find S.rows j with
   | none=>rfl
   | some r=>simp only [Option.map_some];rw [DO]
  exact kY e1 a w h2
 exact h
theorem gE:∀ (xs:List Nat) (S:ES),∀ a w,Rel X S.st a w->Rel X (S.gL xs).st a w
 | [],S,a,w,h=>h
 | x :: xs,S,a,w,h=>gE xs (S.frz x) a w (Of x a w h)
theorem N5 (k:Nat) (v:df) (p:PV) (h:(ia k v).pv=some p):v.pv=some p/\fA k p=false:=by
 cases v with
 | own j =>
  cases hb:Nat.beq j k with
  | true=>simp only [ia,hb,df.pv] at h;cases h
  | false=>simp only [ia,hb,df.pv] at h;cases h;exact ⟨rfl,by simp only [fA,QE];exact beq_false hb⟩
 | po j off q =>
  cases hb:Nat.beq j k with
  | true=>simp only [ia,hb,df.pv] at h;cases h
  | false=>simp only [ia,hb,df.pv] at h;cases h;exact ⟨rfl,by simp only [fA,QE];exact beq_false hb⟩
 | pe j i sz off q =>
  cases hb:Nat.beq j k with
  | true=>simp only [ia,hb,df.pv] at h;cases h
  | false=>simp only [ia,hb,df.pv] at h;cases h;exact ⟨rfl,by simp only [fA,QE];exact beq_false hb⟩
 | pa j off q n i sz =>
  cases hb:Nat.beq j k with
  | true=>simp only [ia,hb,df.pv] at h;cases h
  | false=>simp only [ia,hb,df.pv] at h;cases h;exact ⟨rfl,by simp only [fA,QE];exact beq_false hb⟩
 | wn j n =>
  cases hb:Nat.beq j k with
  | true=>simp only [ia,hb,df.pv] at h;cases h
  | false=>simp only [ia,hb,df.pv] at h;cases h;exact ⟨rfl,by simp only [fA,QE];exact beq_false hb⟩
 | v c x=>simp only [ia,df.pv] at h;cases h;exact ⟨rfl,Az c x k⟩
 | st fs =>
  cases hb:mem (iX fs) k with
  | true=>simp only [ia,hb,df.pv] at h;cases h
  | false=>simp only [ia,hb,df.pv] at h;cases h;exact ⟨rfl,zV hb⟩
 | tup c x=>simp only [ia,df.pv] at h;cases h
 | any=>cases h
 | _=>simp only [ia,df.pv] at h;cases h;exact ⟨rfl,rfl⟩
theorem vP {k:Nat} (j:Nat) (r:bZ):(qx (lT k) j r).row=fh k j r.row:=by
 have a:∀ (d:Row),d.data.all gj=true->fh k j d=d:=by
  intro d hd;unfold fh;cases Nat.ble opened j with
  | false=>rfl
  | true =>
   simp only [cond_true];rw [nI (fun c hc=>by cases c<;>first | rfl | cases hc) hd]
 cases r with
 | arr e2 t2 l2=>exact (a _ (ki l2)).symm
 | box e2 t2 x2=>exact (a _ (eS t2 x2)).symm
 | obox e2 fs =>
  cases ho:Nat.ble opened j with
  | false=>simp only [qx,fh,ho,cond_false]
  | true =>
   simp only [qx,fh,ho,cond_true,bZ.row];have h1:∀ f:fj,(lT k f).enc=f.enc.map (mE k):=by
    intro f;cases f with
    | v c x=>exact (nI (fun c hc=>by cases c<;>first | rfl | cases hc) (eS c x)).symm
    | own q =>
     simp only [lT,fj.enc,QV,WD,mE];cases Nat.beq q k<;>rfl
    | hole=>rfl
   have h2:∀ f:fj,(lT k f).sz=f.sz:=by
    intro f;cases f with
    | own q=>simp only [lT];cases Nat.beq q k<;>rfl
    | _=>rfl
   rw [tZ h2,ua h1]
theorem pW {k:Nat} {E:List (Nat×df)} {R:List (Nat×bZ)} {W:St} (hs:Sub ⟨E,R⟩ W):Sub ⟨rU (ia k) E,sQ (lT k) R⟩ (kill W k):=by
 refine ⟨fun u v p a b=>?_,fun j=>?_⟩
 ·rw [nV] at a;obtain ⟨v0,f3,rfl⟩:=Qr.1 a;obtain ⟨f4,f5⟩:=N5 k v0 p b;have f6:=hs.env u v0 p f3 f4;simp only [kill,f6,f5];rfl
 show (W.rows j).map (fh k j)=(find (sQ (lT k) R) j).map bZ.row;rw [rK,show W.rows j=(find R j).map bZ.row from hs.rows j];cases find R j with
 | none=>rfl
 | some r=>simp only [Option.map_some];rw [vP]
theorem CK {k:Nat} {E:List (Nat×df)} {R:List (Nat×bZ)} {W:St} (hs:Sub ⟨E,R⟩ W):Sub ⟨rU (ia k) E,sQ (lT k) (lV k R)⟩ (jS W k):=by
 refine ⟨fun u v p a b=>(pW (k:=k) hs).env u v p a b,fun j=>?_⟩;show (if j=k then none else (W.rows j).map (fh k j))=(find (sQ (lT k) (lV k R)) j).map bZ.row;rw [rK,oX]
 by_cases c:j=k
 ·rw [Qk c,Qk c];rfl
 rw [Qc c,Qc c,show W.rows j=(find R j).map bZ.row from hs.rows j];cases find R j with
 | none=>rfl
 | some r=>simp only [Option.map_some];rw [vP]
theorem tf (d:Nat):∀ a w,Rel X S.st a w->Rel X (S.yB d).st a w:=by
 intro a w h;unfold ES.yB;split
 ·have h2:=Jg (X:=X) (S:=S.st) d a w h;exact kY (CK (k:=d) (E:=S.env) (R:=S.rows) (W:=S.st) (pV S)) a w h2
 exact h
theorem u9 (own:List Nat) (o:Oper):∀ a w,Rel X S.st a w->Rel X (S.fresh own o).st a w:=by
 intro a w h;unfold ES.fresh;split
 ·split
  ·split
   ·exact tf _ a w h
   exact tf _ a w h
  exact tf _ a w h
 exact h
theorem qO (own:List Nat):∀ (al:List (Nat×Nat)) (os:List Oper) (S:ES),∀ a w,Rel X S.st a w->Rel X (ES.mG T own al S os).st a w
 | _,[],S,a,w,h=>h
 | _,o :: os,S,a,w,h=>qO own _ os _ a w (u9 own o a w (gE _ _ a w h))
def n7 (v:df):PV:=v.pv.getD (.tup [])
def gz (P:Program) (g:Nat):Prop:=∃ fn,P.funcs[g]?=some fn/\fn.name≠"runtime.NumGoroutine"/\fn.body≠none
def lpv:Option df->PV
 | some (.v (.list _) _)=>.own cd
 | _=>.po cd 0
theorem NZ (c:Ty) (y:c.den):(lval c).pv=some (lpv (some (.v c y))):=by cases c<;>rfl
theorem LN (v:Option df):e9 (lpv v)=true:=by
 unfold lpv;split<;>rfl
theorem N1 (e:TypeId) (c:Ty) (x y:c.den):(mb e c x).row.sz=(mb e c y).row.sz:=by cases c<;>rfl
theorem Ac {e:TypeId} {c:Ty} {r:bZ} {z:c.den} (h:Ee e c r=some z):r=mb e c z:=by
 cases r with
 | obox e' fs=>cases h
 | arr e' t l =>
  simp only [Ee] at h;split at h
  ·rename_i hb;obtain ⟨rfl,rfl⟩:=di h;rw [beq_true hb];rfl
  cases h
 | box e' t y =>
  simp only [Ee] at h;split at h
  ·rename_i hb hl;obtain ⟨rfl,rfl⟩:=di h;rw [beq_true hb];cases t<;>first | rfl | cases hl
  cases h
def dJ (j:Nat) (vs:List df):List PV:=(vs.map n7).set j (lpv vs[j]?)
def Cj (T:gU):Prop:=∀ ops draw S h y,T.hook ops draw S=some h->h.x=some y->∀ (X:Ctx) (id:Nat) (W:St) (Q:gM),(∀ (n:Nat) (o:Oper),ops[n]?=some o->dm X o.dst)->Sub S W->(∀ W',Sub (h.f y) W'->Q .normal W')->kp T.P X (.region id ops.toArray draw) W Q
structure jw (T:gU) (call:(g:Nat)->List df->Option (T.out g).den):Prop where
 fn:∀ g vs r,uY T g = .no->call g vs=some r->gz T.P (real g)/\∃ p,(rO (T.cV g) (T.out g) r).pv=some p/\V.Fn T.P (real g) (vs.map n7) p
 given:∀ g j e vs r,uY T g = .given j e->call g vs=some r->gz T.P (real g)/\T.cV g=false/\∃ (c:Ty) (y y2:List c.den),vs[j]?=some (.v (.list c) y)/\(⟨T.out g,r⟩:Σ t:Ty,t.den)=⟨.list c,y2⟩/\FnG T.P (real g) (dJ j vs) (bZ.arr e c y).row (bZ.arr e c y2).row
 cd:∀ g j e vs r v c2 y2,uY T g = .cd j e->call g vs=some r->Lv (T.cV g) (T.out g) r=some (v,.v c2 y2)->gz T.P (real g)/\∃ p,v.pv=some p/\∃ y,vs[j]?=some (.v c2 y)/\FnW T.P (real g) (dJ j vs) (mb e c2 y).row p (mb e c2 y2).row
 hook:Cj T
def Bm (p:PV):Prop:=∃ (t:Ty) (y:t.den),p=t.pv y
theorem rC {p:PV} (h:Bm p) (k:Nat):Jf k p=p/\e9 p=true/\closed p=true:=by
 obtain ⟨t,y,rfl⟩:=h;cases t with
 | pair a b=>exact ⟨rfl,eS (.pair a b) y,eS (.pair a b) y⟩
 | arr n e=>exact ⟨rfl,eS (.arr n e) y,eS (.arr n e) y⟩
 | _=>exact ⟨rfl,rfl,rfl⟩
theorem pd {rd:Nat->Option df} {rr:Nat->Option (Option bZ)} (hA:cK W rd rr) {ln:Option Nat}:∀ (xs:List Operand) (ts:List Ty) (i:Nat) (vs:List df),(∀ j,ln=some j->j<i)->kT rd rr ln i xs ts=some vs->aV W xs=some (vs.map n7)/\∀ p∈vs.map n7,Bm p
 | [],[],i,vs,_,h=>by simp only [kT,Qj] at h;subst h;exact ⟨rfl,fun p hp=>by simp at hp⟩
 | x :: xs,t :: ts,i,vs,hl,h=>by
  simp only [kT] at h;split at h
  ·rename_i v hv;have hb:yu ln i=false:=by
    cases ln with
    | none=>rfl
    | some j =>
     have:=hl j rfl;cases hb:Nat.beq i j with
     | false=>exact hb
     | true=>have:=beq_true hb;omega
   simp only [hb] at h;split at h
   ·rename_i y hy;split at h
    ·rename_i l hl';cases h;obtain ⟨g1,g2⟩:=pd hA xs ts (i+1) l (fun j hj=>by have:=hl j hj;omega) hl';have hx:=hA.ev hv (fF hy);refine ⟨?_,?_⟩
     ·simp only [aV,hx,g1,QV];rfl
     intro p hp;rw [QV] at hp;rcases Qo.1 hp with rfl | hp
     ·exact ⟨t,y,rfl⟩
     exact g2 p hp
    cases h
   cases h
  cases h
 | [],_ :: _,_,_,_,h=>by cases h
 | _ :: _,[],_,_,_,h=>by cases h
theorem AX {l:List PV} (h:∀ p∈l,Bm p) (k:Nat):l.map (Jf k)=l/\l.all e9=true/\l.all closed=true:=by
 refine ⟨?_,QA.2 (fun p hp=>(rC (h p hp) k).2.1),QA.2 (fun p hp=>(rC (h p hp) k).2.2)⟩
 conv=>rhs;rw [<- List.map_id l]
 exact WA (fun p hp=>(rC (h p hp) k).1)
theorem vC {rd rd':Nat->Option df} {rr:Nat->Option (Option bZ)} (hA:cK W rd rr) {j k:Nat} (hrd:∀ t v,rd t=some v->rd' t=some v):∀ (xs:List Operand) (ts:List Ty) (i:Nat) (vs:List df),i<=j->kT rd rr (some j) i xs ts=some vs->sX rd' (j-i) xs=some k ->
 aV W xs=some ((dJ (j-i) vs).map (Jf k))/\(dJ (j-i) vs).all e9=true/\∃ e t y,rr k=some (some (mb e t y))/\vs[j-i]?=some (.v t y)
 | [],_,i,vs,_,_,hl=>by simp [sX] at hl
 | x :: xs,[],i,vs,_,h,_=>by cases h
 | x :: xs,t :: ts,i,vs,hi,h,hl=>by
  simp only [kT] at h;split at h
  ·rename_i v hv
   by_cases c:i=j
   ·subst c;simp only [XP] at hl ⊢;simp only [yu,Vv] at h;split at h
    ·rename_i y' hy;split at h
     ·rename_i l hl';cases h;have key:∀ k':Nat,(v = .po k' 0 []∨v = .own k')->k'=k:=by
       intro k' hk;cases x with
       | tmp u =>
        simp only [gA] at hv;have:=hrd u _ hv;rcases hk with rfl | rfl
        ·simp only [sX,gA,this] at hl;cases hl;rfl
        simp only [sX,gA,this] at hl;cases hl;rfl
       | const cv =>
        simp only [gA,Qj] at hv;subst hv;unfold BW at hk;split at hk<;>rcases hk with hk | hk<;>cases hk
       | func f =>
        simp only [gA,Qj] at hv;subst hv;rcases hk with hk | hk<;>cases hk
       | global g=>cases hv
      obtain ⟨g1,g2⟩:=pd hA xs ts (i+1) l (fun j hj=>by cases hj;omega) hl';obtain ⟨g3,g4,_⟩:=AX g2 k;have b:∀ (e:TypeId) (p:PV),v.pv=some (Jf k p)->p=lpv (some (.v t y'))->rr k=some (some (mb e t y'))->aV W (x :: xs)=some ((dJ 0 (.v t y' :: l)).map (Jf k))/\(dJ 0 (.v t y' :: l)).all e9=true/\∃ e t2 y,rr k=some (some (mb e t2 y))/\(df.v t y' :: l)[0]?=some (.v t2 y):=by
       intro e p hp1 hp2 hk;have hx:=hA.ev hv hp1;subst hp2;refine ⟨?_,?_,e,t,y',hk,rfl⟩
       ·simp only [aV,hx,g1,dJ,QV,List.set_cons_zero,g3,List.getElem?_cons_zero]
       simp only [dJ,QV,List.set_cons_zero,List.all_cons,g4,Bool.and_true,List.getElem?_cons_zero];exact LN _
      split at hy
      ·rename_i k';have a:=key k' (.inl rfl);subst a;split at hy
       ·rename_i e cc y hk;split at hy
        ·rename_i hnl;obtain ⟨rfl,rfl⟩:=di hy;have e1:mb e cc y' = .box e cc y':=by cases cc<;>first | rfl | cases hnl
         refine b e (.po cd 0) rfl ?_ (by rw [e1];exact hk);cases cc<;>first | rfl | cases hnl
        cases hy
       cases hy
      ·rename_i k';have a:=key k' (.inr rfl);subst a;split at hy
       ·rename_i e cc y hk;obtain ⟨rfl,rfl⟩:=di hy;exact b e (.own cd) rfl rfl hk
       cases hy
      cases hy
     cases h
    cases h
   have hb:Nat.beq i j=false:=by
    cases hb:Nat.beq i j with
    | false=>rfl
    | true=>exact absurd (beq_true hb) c
   simp only [yu,hb] at h;split at h
   ·rename_i y hy;split at h
    ·rename_i l hl';cases h;have e1:j-i=(j-(i+1))+1:=Q2;rw [e1] at hl ⊢;obtain ⟨g1,g2,g3⟩:=vC hA hrd xs ts (i+1) l Q2 hl' hl;have hx:=hA.ev hv (fF hy);obtain ⟨p1,p2,_⟩:=rC (p:=t.pv y) ⟨t,y,rfl⟩ k;refine ⟨?_,?_,g3⟩
     ·simp only [aV,hx,g1,dJ,QV,List.set_cons_succ,List.getElem?_cons_succ];show some (t.pv y :: _)=some (Jf k (t.pv y) :: _);rw [p1]
     simp only [dJ,QV,List.set_cons_succ,List.all_cons,Qm,List.getElem?_cons_succ];exact ⟨p2,g2⟩
    cases h
   cases h
  cases h
theorem AD {P:Program} {c:Call} {y:Operand} {t e:TypeId} {inf:TypeInfo} {z:Value} {m:Nat} {ncs:List CV} {k:Nat} (ho:o.op = .call c) (hc:c.callee = .builtin .append) (ha:c.args = #[.const (.slice none 0 0),y]) (ht:c.argTypes = #[t,t]) (hu:P.underlying t=some (.slice e)) (hi:P.info? e=some inf) (hz:inf.zero=some z) (hzs:z.cells.size=inf.size) (hsz:0<inf.size)
 (hy:ev W y=some (.cv (.row m ncs))) (hm:ncs.length=m*inf.size) (x:ncs.all one=true) (v:m<=maxLen) (hb:m*inf.bytes<=140737488355328) (hk:W.rows k=none) (hkl:k≠cd) (hd:dm X o.dst) :
 cf P X o W (put (setRow W k ⟨e,inf.size,m,ncs⟩) o.dst (.own k)):=by
 intro a w ⟨L,r⟩;have l:=r.ev hy;generalize hvy:a.eval y=vy at l;have hx:a.eval (.const (.slice none 0 0)) = .slice none 0 0:=rfl;have q1:w.ownsRow w.heap.size e inf.size (.slice none 0 0) 0 []:=World.ownsRow_nil w _ _ _;have g:∀ (v':Value) (w':World) (news:List Value),(Builtin.append_ #[t,t] o.type #[.slice none 0 0,vy]).run P w = .ok v' w'->w'.ownsRow w.heap.size e inf.size v' m news->Below w.heap.size w w'->news.length=ncs.length->(∀ i (h:i<ncs.length),Den w (Still X W.rows L w).shut (news.getD i undef) ncs[i]) ->
  o.wp P a w (fun a' w'=>Rel X (put (setRow W k ⟨e,inf.size,m,ncs⟩) o.dst (.own k)) a' w') (fun _ _ _=>False):=by
  intro v' w' news hrun hown hbw hnl hnd;have jg:∀ j d,W.rows j=some d->(setRow W k ⟨e,inf.size,m,ncs⟩).rows j=some d/\bh L k v' j=L j:=by
   intro j d h;have:j≠k:=fun e=>by subst e;rw [hk] at h;cases h
   exact ⟨by simp only [setRow];rw [Qc this];exact h,by simp only [bh];rw [Qc this]⟩
  have only:∀ j d,(setRow W k ⟨e,inf.size,m,ncs⟩).rows j=some d->W.rows j=none->j=k/\d=⟨e,inf.size,m,ncs⟩:=by
   intro j d h s;simp only [setRow] at h
   by_cases c:j=k
   ·rw [Qk c] at h;cases h;exact ⟨c,rfl⟩
   rw [Qc c,s] at h;cases h
  have hL:bh L k v' k=v':=by simp [bh]
  have hn:∀ j d b,(setRow W k ⟨e,inf.size,m,ncs⟩).rows j=some d->W.rows j=none->(bh L k v' j).ownBlock=some b->w.heap.size<=b:=by
   intro j d b h s hb;obtain ⟨rfl,rfl⟩:=only j d h s;rw [hL] at hb;exact (hown.lt b hb).1
  have st:=j6 (S':=setRow W k ⟨e,inf.size,m,ncs⟩) (L':=bh L k v') (w':=w') r hbw.size (fun j d h=>(jg j d h).2) hn;have r2:cM X (setRow W k ⟨e,inf.size,m,ncs⟩) (bh L k v') a w':=by
   refine r.grow hbw rfl jg (fun j d h s=>?_) (fun j j' d d' b h h' s h0' _ _=>by rw [(only j d h s).1,(only j' d' h' h0').1]) (fun h=>by simp only [setRow];rw [Qc (Yn hkl)];exact h);obtain ⟨rfl,rfl⟩:=only j d h s;refine ⟨⟨news,by rw [hL];exact zT hown (Qu X.hlo r.below.size),hnl,fun i hi=>((hnd i hi).mono (Fo.jG st) (fun b hb=>hbw.block b (Still.lt r.below hb))).mono (Fo.ks _ _) (fun _ _=>rfl)⟩,fun b hb=>by rw [hL] at hb;exact (hown.lt b hb).1⟩
  refine cW (jm ho hc ha ht (by rw [hx,hvy];exact hrun)) ⟨_,r2.put hd ?_⟩
  conv=>arg 5;rw [<- hL]
  exact .own (r:=⟨e,inf.size,m,ncs⟩) (by simp [setRow])
 have go:∀ (ad:Addr) (c':Nat) (news:List Value),vy = .slice (some ad) m c'->news.length=ncs.length->(∀ i (h:i<ncs.length),Den w (Still X W.rows L w).shut (news.getD i undef) ncs[i])->(∀ j u,news[j]?=some u->w.cell? (ad.add j)=some u) ->
  o.wp P a w (fun a' w'=>Rel X (put (setRow W k ⟨e,inf.size,m,ncs⟩) o.dst (.own k)) a' w') (fun _ _ _=>False):=by
  intro ad c' news hvy' hnl hnd hcell;have p:∀ u∈news,u.oneCell'=true:=by
   have:=mH (vs:=news.toArray) (cs:=ncs) (by simpa using hnl) (fun i hi=>by simpa [Q9,Q6] using hnd i hi) x;simpa using this
  obtain ⟨v',w',g1,g2,g3,g4⟩:=run_append_own (P:=P) w w.heap.size t o.type e inf z inf.size inf.bytes hu hi hz rfl rfl hzs hsz (.slice none 0 0) 0 [] q1 ad m c' news (by rw [hnl,hm]) hcell p Q2 (by simpa using hb) (Qn _);rw [QS,List.nil_append] at g2;exact g v' w' news (by rw [hvy'];exact g1) g2 (qW (w':=w') g3) hnl hnd
 cases l with
 | cv hden =>
  cases hden with
  | nil b c' hb' =>
   cases b with
   | none =>
    have:c'=0:=hb' rfl;subst this;have g1:=run_append_owned_none (P:=P) w w.heap.size t o.type e inf inf.size hu hi (.slice none 0 0) 0 [] q1;exact g _ w [] g1 q1 (Below.refl _ _) rfl (fun i h=>by simp at h)
   | some ad=>exact go ad c' [] rfl rfl (fun i h=>by simp at h) (fun j u h=>by simp at h)
  | row ad n c' cs vs hs hF hn hcc hdd =>
   refine go ad c' ((List.range ncs.length).map vs) rfl Q3 (fun i hi=>?_) (fun j u hj=>?_)
   ·simpa [Q6,hi] using hdd i hi
   simp only [VJ,Qr] at hj;obtain ⟨i,q,f⟩:=hj;obtain ⟨h3,rfl⟩:=Qx.1 q;simp at h3 f;subst f;exact hcc j h3
end
section
variable {T:gU} {X:Ctx} {S:ES} {W W':St} {o:Oper} {ops:List Oper} {lim:Option (List Meta)} {i:Nat} {l:List Oper} {q:St->Prop} {F:Nat}
def od (ops:List Oper) (ctx:Option (Nat×Bool)) (prot:List Nat) (W:St):Prop:=match ctx with
 | none=>True
 | some (j,w)=>∃ oj t,ops[j]?=some oj/\oj.dst=some t/\t∈prot/\W.env t=some (.bool w)
def Frame (l:List Oper) (W W':St):Prop:=W'.rows=W.rows/\∀ t,(∀ o∈l,o.dst≠some t)->W'.env t=W.env t
theorem yC (l:List Oper) (W:St):Frame l W W:=⟨rfl,fun _ _=>rfl⟩
theorem tI {W:St} {d:Option Nat} {v:df} {t:Nat} (h:d≠some t):(gQ W d v).env t=W.env t:=by
 cases d with
 | none=>rfl
 | some d =>
  have h':t≠d:=fun e=>h (by rw [e]);cases hv:v.pv<;>simp only [gQ,hv,V.put,V.drop]<;>rw [Qc h']
theorem Jr {W:St} {d:Option Nat} {v:df}:(gQ W d v).rows=W.rows:=by
 cases d with
 | none=>rfl
 | some d=>cases hv:v.pv<;>simp only [gQ,hv]<;>rfl
theorem vd {l:List Oper} {o:Oper} {v:df} (h:Frame l (gQ W o.dst v) W'):Frame (o :: l) W W' :=
 ⟨by rw [h.1,Jr],fun t ht=>by rw [h.2 t (fun o' ho'=>ht o' (Qa _ ho')),tI (ht o Q7)]⟩
theorem wU {ctx:Option (Nat×Bool)} {prot:List Nat} {d:Option Nat} {v:df} (h:od ops ctx prot W) (hn:kF prot d=true):od ops ctx prot (gQ W d v):=by
 cases ctx with
 | none=>trivial
 | some x =>
  obtain ⟨oj,t,h1,h2,h3,h4⟩:=h;refine ⟨oj,t,h1,h2,h3,?_⟩;rw [tI (fun e=>?_)]
  ·exact h4
  subst e;simp only [kF,Xb] at hn;rw [mem_iff.2 h3] at hn;cases hn
theorem J1 {ctx:Option (Nat×Bool)} {prot:List Nat} (h:od ops ctx prot W) (hf:Frame l W W') (hn:∀ o∈l,kF prot o.dst=true):od ops ctx prot W':=by
 cases ctx with
 | none=>trivial
 | some x =>
  obtain ⟨oj,t,h1,h2,h3,h4⟩:=h;refine ⟨oj,t,h1,h2,h3,?_⟩;rw [hf.2 t (fun o ho e=>?_)]
  ·exact h4
  have:=hn o ho;rw [e] at this;simp only [kF,Xb] at this;rw [mem_iff.2 h3] at this;cases this
theorem yA:∀ {a b:Option (Nat×Bool)},Oe a b=true->a=b
 | none,none,_=>rfl
 | some x,some y,h=>by
  simp only [Oe,Qm,W7] at h;obtain ⟨a,b⟩:=x;obtain ⟨c,d⟩:=y;have h1:a=c:=beq_true h.1;have h2:b=d:=h.2;rw [h1,h2]
 | none,some _,h=>by cases h
 | some _,none,h=>by cases h
theorem Eu {ctx:Option (Nat×Bool)} {prot:List Nat} (h:od ops ctx prot W) (hg:Oe o.guard ctx=true):GT ops o W:=by
 have e:=yA hg;cases ctx with
 | none=>exact .inl e
 | some x =>
  obtain ⟨oj,t,h1,h2,h3,h4⟩:=h;exact .inr ⟨x.1,x.2,oj,t,e,h1,h2,h4⟩
theorem Iy {t:Nat}:∀ (l G:List Oper) (pk:Oper) (rest:List Oper),Oy t l=some (G,pk,rest)->l=G++pk :: rest/\∃ x y,pk.op = .pick (.tmp t) x y
 | [],G,pk,rest,h=>by cases h
 | o :: l,G,pk,rest,h=>by
  simp only [Oy] at h;split at h
  ·rename_i hb;cases h;refine ⟨rfl,?_⟩;split at hb
   ·rename_i c x y ho;have:=beq_true hb;subst this;exact ⟨x,y,ho⟩
   cases hb
  split at h
  ·rename_i x hx;obtain ⟨G',pk',rest'⟩:=x;cases h;obtain ⟨h1,h2⟩:=Iy l G' pk' rest' hx;exact ⟨by rw [h1];rfl,h2⟩
  cases h
theorem El {j:Nat} {w:Bool} {prot:List Nat}:∀ (G:List Oper) (n:Nat),inner ops j w prot i G n=true->∀ (m:Nat) (o:Oper),G[m]?=some o->kF prot o.dst=true/\∃ g,o.guard=some g/\(∃ og tg,ops[g.1]?=some og/\og.dst=some tg)/\((g.1=j/\g.2=w)∨(i<=g.1/\g.1<n+m))
 | [],n,h,m,o',hm=>by simp at hm
 | o :: G,n,h,m,o',hm=>by
  simp only [inner,Qm] at h;obtain ⟨⟨h1,h2⟩,h3⟩:=h;cases m with
  | zero =>
   cases hm;refine ⟨?_,?_⟩
   ·cases hd:o.dst with
    | none=>rfl
    | some d=>simp only [hd] at h2;exact h2
   cases hg:o.guard with
   | none=>simp only [hg] at h1;cases h1
   | some g =>
    simp only [hg,Qm,Yr] at h1;obtain ⟨h4,h5⟩:=h1;refine ⟨g,rfl,?_,?_⟩
    ·cases hb:(ops[g.1]?).bind (·.dst) with
     | none=>simp only [hb] at h5;cases h5
     | some tg =>
      obtain ⟨og,k1,k2⟩:=Q5 hb;exact ⟨og,tg,k1,k2⟩
    rcases h4 with h4 | h4
    ·exact .inl ⟨beq_true h4.1,by simpa using h4.2⟩
    have e1:=Qe h4.1;have e2:g.1<n:=Qe h4.2;exact .inr ⟨e1,Q2⟩
  | succ m =>
   obtain ⟨k1,g,k2,k3,k4⟩:=El G (n+1) h3 m o' (by simpa using hm);exact ⟨k1,g,k2,k3,k4.imp id (fun h=>⟨h.1,Q2⟩)⟩
theorem C4 {P:Program} {j t:Nat} {oj:Oper} {w:Bool} {prot:List Nat} (hdst:∀ (n:Nat) (o:Oper),ops[n]?=some o->dU X o) (hmeta:∀ (n:Nat) (o:Oper),ops[n]?=some o->jV T ops lim n o) (hj:ops[j]?=some oj) (hjd:oj.dst=some t) (ht:t∈prot) :
 ∀ (G:List Oper) (n:Nat) (W:St),(∀ (m:Nat) (o:Oper),G[m]?=some o->ops[n+m]?=some o)->i<=n->(∀ (m:Nat) (o:Oper),G[m]?=some o->kF prot o.dst=true/\∃ g,o.guard=some g/\(∃ og tg,ops[g.1]?=some og/\og.dst=some tg)/\((g.1=j/\g.2=w)∨(i<=g.1/\g.1<n+m))) ->
  W.env t=some (.bool (!w))->(∀ m,i<=m->m<n->∀ om,ops[m]?=some om->∀ d,om.dst=some d->W.env d=some (.cv (.lit undef)))->(∀ W',Frame G W W'->W'.env t=some (.bool (!w))->q W')->Wk P X ops lim n G W q
 | [],n,W,hG,hi,hin,ht',hun,hq=>Ko (hq W (yC _ _) ht')
 | o :: G,n,W,hG,hi,hin,ht',hun,hq=>by
  have ho:=hG 0 o rfl;rw [Nat.add_zero] at ho;obtain ⟨h1,g,h2,⟨og,tg,h3,h4⟩,h5⟩:=hin 0 o rfl;have hgf:GF ops o W:=by
   refine ⟨g.1,g.2,og,tg,h2,h3,h4,?_⟩;rcases h5 with ⟨e1,e2⟩ | ⟨e1,e2⟩
   ·rw [e1,hj] at h3;cases h3;rw [hjd] at h4;cases h4;left;rw [e2];exact ht'
   exact .inr (hun g.1 e1 Q2 og h3 tg h4)
  have a:o.dst≠some t:=by
   intro e;rw [e] at h1;simp only [kF,Xb] at h1;rw [mem_iff.2 ht] at h1;cases h1
  refine M7 ho (hmeta n o ho) hgf (hdst n o ho).dm ?_;have eP:put W o.dst (.cv (.lit undef))=gQ W o.dst .undef:=by cases hd:o.dst<;>rfl
  rw [eP];refine C4 hdst hmeta hj hjd ht G (n+1) _ (fun m o' hm=>by have:=hG (m+1) o' (by simpa using hm);rw [show n+1+m=n+(m+1) by omega];exact this) Q2 (fun m o' hm=>?_) (by rw [tI a];exact ht') (fun m hm1 hm2 om hom d hd=>?_) (fun W' hf ht2=>hq W' (vd hf) ht2)
  ·obtain ⟨k1,g',k2,k3,k4⟩:=hin (m+1) o' (by simpa using hm);exact ⟨k1,g',k2,k3,k4.imp id (fun h=>⟨h.1,Q2⟩)⟩
  by_cases c:o.dst=some d
  ·rw [c];simp [gQ,df.pv,V.put]
  rw [tI c]
  by_cases c2:m=n
  ·subst c2;rw [ho] at hom;cases hom;exact absurd hd c
  exact hun m hm1 Q2 om hom d hd
theorem qQ:∀ (G:List Oper) (S:ES) (t:Nat) (v:df) (p:PV),find (S.forget G).env t=some v->v.pv=some p->(∀ o∈G,o.dst≠some t)/\find S.env t=some v
 | [],S,t,v,p,h,hp=>⟨fun o ho=>by simp at ho,h⟩
 | o :: G,S,t,v,p,h,hp=>by
  simp only [ES.forget] at h;cases hd:o.dst with
  | none =>
   simp only [hd] at h;obtain ⟨h1,h2⟩:=qQ G S t v p h hp;exact ⟨fun o' ho'=>by
    rcases Qo.1 ho' with rfl | ho';· rw [hd];simp
    exact h1 o' ho',h2⟩
  | some d =>
   simp only [hd] at h;obtain ⟨h1,h2⟩:=qQ G (S.put d .any) t v p h hp;simp only [ES.put,find] at h2;split at h2
   ·cases h2;cases hp
   rename_i hb;exact ⟨fun o' ho'=>by
    rcases Qo.1 ho' with rfl | ho';· rw [hd];intro e;exact beq_false hb (QF e).symm
    exact h1 o' ho',h2⟩
theorem vT:∀ (G:List Oper) (S:ES),(S.forget G).rows=S.rows
 | [],S=>rfl
 | o :: G,S=>by
  simp only [ES.forget];cases o.dst<;>simp only [vT G]<;>rfl
theorem kS:∀ (G:List Oper) (S:ES) (t:Nat),(∀ o∈G,o.dst≠some t)->find (S.forget G).env t=find S.env t
 | [],S,t,h=>rfl
 | o :: G,S,t,h=>by
  simp only [ES.forget];cases hd:o.dst with
  | none=>exact kS G S t (fun o' ho'=>h o' (Qa _ ho'))
  | some d =>
   simp only;rw [kS G _ t (fun o' ho'=>h o' (Qa _ ho'))];have:o.dst≠some t:=h o Q7;rw [hd] at this;simp only [ES.put,find];split
   ·rename_i hb;exact absurd (by rw [beq_true hb]) this
   rfl
theorem xj {G:List Oper} (hs:Sub S W) (hf:Frame G W W'):Sub (S.forget G) W':=by
 refine ⟨fun t v p b a=>?_,fun k=>?_⟩
 ·obtain ⟨h3,h4⟩:=qQ G S t v p b a;rw [hf.2 t h3];exact hs.env t v p h4 a
 rw [hf.1,vT];exact hs.rows k
theorem EZ {rd:Nat->Option df} {rr:Nat->Option (Option bZ)} (hA:cK W rd rr) {x:Operand} {b:Bool} (h:qV rd x=some b):ev W x=some (.bool b):=by
 unfold qV at h;split at h
 ·rename_i b' hb;cases h;exact hA.pR hb
 cases h
theorem HS {P:Program} {x y:Operand} {t:Nat} {b u:Bool} {pk:Oper} {d:Nat} (hd:dU X pk) (hpd:pk.dst=some d) (ho:pk.op = .pick (.tmp t) x y) (hc:ev W (.tmp t)=some (.bool b)) (hx:b=true->ev W x=some (.bool u)) (hy:b=false->ev W y=some (.bool u)):cf P X pk W (gQ (qb W none) pk.dst (.v .bool u)) :=
 xF (rB ho hc hx hy) rfl hd.dm
end
end Go.Proofs.YtfbgaddecbiimaaGreatDoor.E
end
