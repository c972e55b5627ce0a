/- An evaluator of the program's code, what its functions come to, and what they mean: text 3. No condition. -/
import Derived.ChangeArms
import Derived.WideShapes
import Derived.KernelRfl
import Derived.Test.YtjimdhlmeebjeaaGreatProg
import Derived.Below
import Derived.Deep.Draws
import Derived.Deep.AppendLies
import Derived.Maps.AppendAt
import Derived.OwnWalk
import Derived.Laws.BytesArg
import Derived.Laws.MakeOwn
import Derived.Laws.OwnMore
import Derived.Deep.OwnRows
import Derived.Tactics
import Derived.Lib.ConvBytes
import Derived.Laws.Slices
import Derived.WalkKit
import Derived.RowKit3
import Derived.Deep.LoopGhost
import Derived.Deep.QuietTactic
import Derived.BigQuiet
import Derived.WideLaws
import Derived.Deep.DeepCutAuto
import Derived.Deep.CutBlock
import Derived.Deep.RegionHeld3
import Derived.Laws.Rows
import Derived.Lib.AppendStr
import Derived.ArgAppend
import Derived.Laws.IdiomCopy
import Derived.OrdersHeld
import Derived.Laws.BitsLemmas
import Derived.RowKit
import Derived.Test.YtjimdhlmeebjeaaGreatProjects2
set_option linter.unusedSimpArgs false
set_option linter.unusedSectionVars false
section
namespace Go.Proofs.YtjimdhlmeebjeaaGreat.E
open Go.RowKit Go.Proofs.YtjimdhlmeebjeaaGreatW.PrintWords Go.Proofs.YtjimdhlmeebjeaaGreatW.PrintMore Go.Proofs.YtjimdhlmeebjeaaGreat.V Go.WideShapes
set_option linter.unusedVariables false
def CE:(c:Ty)→c.den→Prop
 | .int k,n=>(Lit.int k n).wf=true
 | .str,s=>s.size≤maxLen
 | .list e,l=>l.length≤maxLen∧∀ x∈l,CE e x
 | .pair a b,x=>CE a x.1∧CE b x.2
 | _,_=>True
mutual
def deep (T:Tab):Nat→TypeId→Ty→Bool
 | 0,_,_=>false
 | n+1,t,c=>(match find T.ty t with
  | some c'=>(tF c' c).isSome
  | none=>false)&&(match c with
  | .list c=>match elc T t with
   | some (e,c')=>(tF c' c).isSome&&kF c&&deep T n e c
   | none=>false
  | .pair a b=>match T.P.underlying t with
   | some (.struct fs)=>AV T n fs.toList (.pair a b)
   | _=>false
  | .int _=>true
  | .bool=>true
  | .str=>true
  | _=>false)
def AV (T:Tab):Nat→List Field→Ty→Bool
 | 0,_,_=>false
 | n+1,f :: fs,.pair a b=>deep T n f.type a&&AV T n fs b
 | _+1,[],.unit=>true
 | _,_,_=>false
end
section
variable {T:Tab} {H:Type} {enc:TypeId×Value→H} {w:World} {base:Nat} {spare:Nat→Bool} {held:Bool}
def qL (w:World) (cs:List Value) (ds:List CV):Prop:=cs.length=ds.length∧∀ i (h:i<ds.length),Den w (.of fun b=>b<w.heap.size) (cs.getD i undef) ds[i]
theorem ty_sz (hT:eU T=true) {t:TypeId} {c:Ty} (h:find T.ty t=some c):T.P.cellsOf t=c.sz:=by
 obtain ⟨inf,h1,h2,_⟩:=(lj hT h).info
 simp only [Program.cellsOf,h1,Option.map_some,Option.getD_some,h2]
theorem AY {a:Addr} {n:Nat} {l:List Value} (h:w.cells? base a n=some l):l.length=n∧∀ i,i<n→w.cell? (a.add i)=some (l.getD i undef):=by
 unfold World.cells? at h
 split at h
 ·have key:∀ (js:List Nat) (l:List Value),js.mapM (fun i=>w.cell? (a.add i))=some l→l.length=js.length∧∀ i (hi:i<js.length),w.cell? (a.add js[i])=some (l.getD i undef):=by
   intro js
   induction js with
   | nil=>intro l h;simp at h;subst h;exact ⟨rfl,fun i hi=>by simp at hi⟩
   | cons j js ih =>
    intro l h
    rw [List.mapM_cons] at h
    simp only [Option.bind_eq_bind,Option.pure_def,Option.bind_eq_some_iff] at h
    obtain ⟨v,h1,l',h2,h3⟩:=h
    cases h3
    obtain ⟨g1,g2⟩:=ih l' h2
    refine ⟨by simp [g1],fun i hi=>?_⟩
    cases i with
    | zero=>exact h1
    | succ i=>simpa using g2 i (by simpa using hi)
  obtain ⟨g1,g2⟩:=key _ l h
  refine ⟨by simpa using g1,fun i hi=>?_⟩
  have:=g2 i (by simpa using hi)
  simpa using this
 ·cases h
theorem EP {a:Addr} {v:Value} (h:w.cell? a=some v):a.spot=none∧a.block<w.heap.size:=by
 unfold World.cell? at h
 split at h
 ·rename_i c e f hb
  split at h
  ·cases h
  ·rename_i hs
   refine ⟨by simpa using hs,?_⟩
   exact (Array.getElem?_eq_some_iff.1 hb).1
 ·cases h
theorem Ct {cs cs':List Value} {ds ds':List CV} (h:qL w cs ds) (h':qL w cs' ds'):qL w (cs++cs') (ds++ds'):=by
 refine ⟨by rw [List.length_append,List.length_append,h.1,h'.1],fun i hi=>?_⟩
 rw [List.length_append] at hi
 by_cases c:i<ds.length
 ·rw [List.getElem_append_left c]
  have:=h.2 i c
  rw [List.getD_eq_getElem?_getD] at this ⊢
  rw [List.getElem?_append_left (by rw [h.1];exact c)]
  exact this
 ·rw [List.getElem_append_right (by omega)]
  have:=h'.2 (i-ds.length) (by omega)
  rw [List.getD_eq_getElem?_getD] at this ⊢
  rw [List.getElem?_append_right (by rw [h.1];omega),h.1]
  exact this
theorem trod_den (hT:eU T=true):∀ (fuel:Nat) (n:Nat) (t:TypeId) (c:Ty) (cs:List Value) (x:DataW H×List MemPlace),deep T n t c=true→DataW.trod enc T.P w base spare held fuel t cs=some x→∃ y:c.den,CE c y∧qL w cs (c.enc y):=by
 intro fuel
 induction fuel with
 | zero=>intro n t c cs x hd h;simp [DataW.trod] at h
 | succ fuel ih =>
  intro n t c cs x hd h
  cases n with
  | zero=>cases hd
  | succ n =>
   simp only [deep,Bool.and_eq_true] at hd
   obtain ⟨hd0,hd1⟩:=hd
   have hty:find T.ty t=some c:=by
    split at hd0
    ·rename_i c' hc
     cases hq:tF c' c with
     | none=>rw [hq] at hd0;cases hd0
     | some q=>rw [← q.down];exact hc
    ·cases hd0
   have hM:=lj hT hty
   have one:∀ (v:Value) (cv:CV),cs=[v]→Den w (.of fun b=>b<w.heap.size) v cv→qL w cs [cv]:=by
    intro v cv h1 h2
    subst h1
    refine ⟨rfl,fun i hi=>?_⟩
    have:i=0:=by simp at hi;exact hi
    subst this
    exact h2
   cases c with
   | int k =>
    obtain ⟨m,h1,h2,h3⟩:=DataW.trod_int hM.int h
    exact ⟨m,h3,one _ _ h1 (.lit _)⟩
   | bool =>
    obtain ⟨b,h1,h2⟩:=DataW.trod_bool hM.bool h
    exact ⟨b,trivial,one _ _ h1 (.lit _)⟩
   | str =>
    obtain ⟨b,h1,h2,h3⟩:=DataW.trod_string hM.str h
    exact ⟨b,h3,one _ _ h1 (.lit _)⟩
   | fn=>cases hd1
   | unit=>cases hd1
   | list c =>
    dsimp only at hd1
    split at hd1
    ·rename_i e c' he
     simp only [Bool.and_eq_true] at hd1
     obtain ⟨⟨hq,hs⟩,hdp⟩:=hd1
     have hcc:c'=c:=by
      cases hq':tF c' c with
      | none=>rw [hq'] at hq;cases hq
      | some q=>exact q.down
     subst hcc
     obtain ⟨hu,hMe,_⟩:=wa hT he
     have hsz:=(jd hs).2
     have hce:T.P.cellsOf e=c'.sz:=by
      obtain ⟨inf,h1,h2,_⟩:=hMe.info
      simp only [Program.cellsOf,h1,Option.map_some,Option.getD_some,h2]
     rcases DataW.trod_slice hu h with ⟨h1,_⟩ | ⟨a,len,cap,elems,rest,m,hfu,h1,_,hb,hl,hm,hlen,hel,_⟩
     ·exact ⟨[],⟨Nat.zero_le _,fun x hx=>by cases hx⟩,one _ _ h1 (.nil _ _ (fun _=>rfl))⟩
     ·cases hfu
      rw [hce] at hel
      have each:∀ i,i<len→∃ l y,w.cells? base (a.add (i*c'.sz)) c'.sz=some l∧CE c' y∧qL w l (c'.enc y):=by
       intro i hi
       have:=hel i hi
       rw [List.getElem?_eq_getElem (by omega)] at this
       obtain ⟨l,g1,g2⟩:=Option.bind_eq_some_iff.1 this
       obtain ⟨y,g3,g4⟩:=ih n e c' l _ hdp g2
       exact ⟨l,y,g1,g3,g4⟩
      rcases Nat.eq_zero_or_pos len with h0 | h0
      ·subst h0
       exact ⟨[],⟨Nat.zero_le _,fun x hx=>by cases hx⟩,one _ _ h1 (.nil _ _ (fun h=>by cases h))⟩
      ·obtain ⟨l0,y0,k1,k2,k3⟩:=each 0 h0
       have hfirst:=(AY k1).2 0 hsz
       rw [Nat.zero_mul] at hfirst
       have e0:(a.add 0).add 0=a:=by simp [Addr.add]
       rw [e0] at hfirst
       obtain ⟨hspot,hblk⟩:=EP hfirst
       have build:∀ m,m≤len→∃ (ys:List c'.den) (vs:Nat→Value),ys.length=m∧(∀ x∈ys,CE c' x)∧∀ i (hi:i<(ys.flatMap c'.enc).length),w.cell? (a.add i)=some (vs i)∧Den w (.of fun b=>b<w.heap.size) (vs i) (ys.flatMap c'.enc)[i]:=by
        intro m
        induction m with
        | zero=>intro _;exact ⟨[],fun _=>undef,rfl,fun x hx=>(by cases hx),fun i hi=>by simp at hi⟩
        | succ m ihm =>
         intro hmle
         obtain ⟨ys,vs,g1,g2,g3⟩:=ihm (by omega)
         obtain ⟨l,y,g4,g5,g6⟩:=each m (by omega)
         obtain ⟨g7,g8⟩:=AY g4
         have hyl:(ys.flatMap c'.enc).length=m*c'.sz:=by rw [gy,g1]
         refine ⟨ys++[y],fun i=>if i<m*c'.sz then vs i else l.getD (i-m*c'.sz) undef,by simp [g1],fun x hx=>?_,fun i hi=>?_⟩
         ·rcases List.mem_append.1 hx with hx | hx
          ·exact g2 x hx
          ·rcases List.mem_singleton.1 hx with rfl;exact g5
         ·have hfl:(ys++[y]).flatMap c'.enc=ys.flatMap c'.enc++c'.enc y:=by simp
          have hi2:i<m*c'.sz+c'.sz:=by
           rw [hfl,List.length_append,hyl,bJ] at hi
           exact hi
          by_cases ci:i<m*c'.sz
          ·have:=g3 i (by rw [hyl];exact ci)
           simp only [if_pos ci]
           refine ⟨this.1,?_⟩
           have e1:((ys++[y]).flatMap c'.enc)[i]=(ys.flatMap c'.enc)[i]'(by rw [hyl];exact ci):=by
            simp only [hfl]
            rw [List.getElem_append_left]
           rw [e1]
           exact this.2
          ·simp only [if_neg ci]
           have hlt:i-m*c'.sz<c'.sz:=by omega
           have e1:=g8 (i-m*c'.sz) hlt
           rw [V.add_add a hspot,show m*c'.sz+(i-m*c'.sz)=i by omega] at e1
           refine ⟨e1,?_⟩
           have e2:((ys++[y]).flatMap c'.enc)[i]=(c'.enc y)[i-m*c'.sz]'(by rw [bJ];exact hlt):=by
            simp only [hfl]
            rw [List.getElem_append_right (by rw [hyl];omega)]
            simp only [hyl]
           rw [e2]
           exact g6.2 _ (by rw [bJ];exact hlt)
       obtain ⟨ys,vs,g1,g2,g3⟩:=build len (Nat.le_refl _)
       refine ⟨ys,⟨by rw [g1];omega,g2⟩,one _ _ h1 ?_⟩
       rw [show ys.length=len from g1]
       exact .row a len cap _ vs hspot hblk hl (fun i hi=>(g3 i hi).1) (fun i hi=>(g3 i hi).2)
    ·cases hd1
   | pair a b =>
    dsimp only at hd1
    obtain ⟨fs,hu,hf⟩:=hM.st rfl
    simp only [hu] at hd1
    obtain ⟨xs,m,hfu,_,hlen,hxs,hall⟩:=DataW.trod_struct hu h
    cases hfu
    have key:∀ (fl:List Field) (n:Nat) (c:Ty) (off:Nat),AV T n fl c=true→iO T.P fl c off=true→(∀ f∈fl,∃ y,DataW.trod enc T.P w base spare held fuel f.type ((cs.drop f.offset).take (T.P.cellsOf f.type))=some y)→off+c.sz=cs.length→∃ y:c.den,CE c y∧qL w (cs.drop off) (c.enc y):=by
     intro fl
     induction fl with
     | nil =>
      intro n c off h1 h2 h3 h4
      cases c with
      | unit=>exact ⟨(),trivial,by simp [qL,Ty.enc,Ty.sz] at h4 ⊢;omega⟩
      | _=>cases h2
     | cons f fl ihf =>
      intro n c off h1 h2 h3 h4
      cases n with
      | zero=>cases h1
      | succ n =>
       cases c with
       | pair a b =>
        simp only [AV,Bool.and_eq_true] at h1
        simp only [iO,Bool.and_eq_true] at h2
        obtain ⟨⟨⟨k1,k2⟩,k3⟩,k4⟩:=h2
        simp only [Ty.sz] at h4
        obtain ⟨y2,g1,g2⟩:=ihf n b (off+a.sz) h1.2 k4 (fun f' hf'=>h3 f' (List.mem_cons_of_mem _ hf')) (by omega)
        obtain ⟨z,hz⟩:=h3 f List.mem_cons_self
        have hsz:T.P.cellsOf f.type=a.sz:=by
         unfold zU at k3
         split at k3
         ·rename_i inf hi
          simp only [Program.cellsOf,hi,Option.map_some,Option.getD_some,beq_true k3]
         ·cases k3
        rw [hsz,beq_true k1] at hz
        obtain ⟨y1,g3,g4⟩:=ih n f.type a _ _ h1.1 hz
        refine ⟨(y1,y2),⟨g3,g1⟩,?_⟩
        have e1:cs.drop off=(cs.drop off).take a.sz++cs.drop (off+a.sz):=by
         rw [← List.drop_drop,List.take_append_drop]
        rw [e1]
        exact Ct g4 g2
       | _=>cases h2
    obtain ⟨y,g1,g2⟩:=key fs.toList n (.pair a b) 0 hd1 hf (fun f hf'=>by
     obtain ⟨i,hi⟩:=List.getElem?_of_mem hf'
     rw [Array.getElem?_toList] at hi
     have:=hall i f hi
     rw [this,List.getElem?_eq_getElem (by rw [hxs];exact (Array.getElem?_eq_some_iff.1 hi).1)]
     exact ⟨_,rfl⟩) (by rw [hlen,Nat.zero_add];exact (ty_sz hT hty).symm)
    exact ⟨y,g1,g2⟩
theorem wh (hT:eU T=true) {base' n:Nat} {t:TypeId} {c:Ty} {v:Value} {d:DataW H} {ps:List MemPlace} (hd:deep T n t c=true) (hty:find T.ty t=some c) (hok:Value.okWide T.P w .any base' t v) (h:DataW.Trod enc T.P w base spare held t v d ps):∃ y:c.den,CE c y∧gD w (.of fun b=>b<w.heap.size) nr nl v (c.pv y):=by
 obtain ⟨fuel,h⟩:=h
 obtain ⟨y,h1,h2⟩:=trod_den hT fuel n t c _ _ hd h
 refine ⟨y,h1,?_⟩
 have hM:=lj hT hty
 obtain ⟨ds,hu,hdd⟩:=hM.und
 cases hag:c.tR with
 | true =>
  obtain ⟨fs,rfl⟩:=n7 hdd hag
  obtain ⟨cs,rfl,_⟩:=okWide_struct hu hok
  rw [xd hag]
  refine .ag (by simpa [Value.cells] using h2.1) (fun i hi=>?_)
  have:=h2.2 i hi
  simpa [Value.cells,Array.getD_eq_getD_getElem?,List.getD_eq_getElem?_getD] using this
 | false =>
  obtain ⟨cc,g1,g2⟩:=um hag y
  rw [g1] at h2
  rw [g2]
  have hv:v.cells = #[v]:=by
   cases c with
   | int k=>obtain ⟨m,rfl⟩:=okWide_int hM.int hok;rfl
   | bool=>obtain ⟨m,rfl⟩:=okWide_bool hM.bool hok;rfl
   | str=>obtain ⟨m,rfl⟩:=okWide_string hM.str hok;rfl
   | list e=>obtain ⟨e',hu'⟩:=hM.list;obtain ⟨a,len,cap,rfl⟩:=okWide_slice hu' hok;rfl
   | fn =>
    cases n with
    | zero=>cases hd
    | succ n=>simp [deep] at hd
   | _=>cases hag
  have:=h2.2 0 (by simp)
  rw [hv] at this
  exact .cv (by simpa using this)
end
end Go.Proofs.YtjimdhlmeebjeaaGreat.E
end
section
namespace Go.Proofs.YtjimdhlmeebjeaaGreat.E
open Go.RowKit Go.Proofs.YtjimdhlmeebjeaaGreatW.PrintWords Go.Proofs.YtjimdhlmeebjeaaGreatW.PrintMore Go.Proofs.YtjimdhlmeebjeaaGreat.V
set_option linter.unusedVariables false
def sub:Code→List Nat→Code
 | c,[]=>c
 | .seq a b,n :: p=>match n with
  | 0=>sub a p
  | _=>sub b p
 | .cond _ a b,n :: p=>match n with
  | 0=>sub a p
  | _=>sub b p
 | .block _ c,_ :: p=>sub c p
 | .loop c,_ :: p=>sub c p
 | .scope c,_ :: p=>sub c p
 | c,_=>c
def kont (T:Tab) (F nt:Nat) (call:(g:Nat)→List Val→Option (T.out g).den) (n:Nat) {β:Type}:Code→List Nat→List Nat→(Exit→ES→Option β)→(Exit→ES→Option β)
 | _,[],_,K=>K
 | .seq a b,m :: p,ns,K=>match m with
  | 0=>kont T F nt call n a p ns fun e S'=>match e with
   | .normal=>code T F nt call n b (nE T F (fid b) S') K
   | e=>K e S'
  | _=>kont T F nt call n b p ns K
 | .cond _ a b,m :: p,ns,K=>match m with
  | 0=>kont T F nt call n a p ns K
  | _=>kont T F nt call n b p ns K
 | .block i c,_ :: p,ns,K=>kont T F nt call n c p ns fun e S'=>match e with
  | .exit j=>match Nat.beq j i with
   | true=>K .normal S'
   | false=>K (.exit j) S'
  | e=>K e S'
 | .scope c,_ :: p,ns,K=>kont T F nt call n c p ns fun e S'=>match e with
  | .goto _=>none
  | e=>K e S'
 | .loop c,_ :: p,m :: ns,K=>kont T F nt call n c p ns fun e S'=>match e with
  | .normal=>DZ (nE T F (fid c)) (fun S K=>code T F nt call n c S K) m (nE T F (fid c) S') K
  | e=>K e S'
 | _,_,_,K=>K
def fin (T:Tab) (F:Nat) (rs:List ResultVar) (ln:Option (TypeId×Ty)):Exit→ES→Option (T.out F).den:=match ln with
 | none=>fun e S=>match e with
  | .ret=>vE T (ie S rs) (T.dH F) (T.out F) rs
  | .normal=>vE T (ie S rs) (T.dH F) (T.out F) rs
  | _=>none
 | some (te,c0)=>fun e S=>match e with
  | .ret=>n5 T (T.dH F) te c0 rs (ie S rs) (T.out F)
  | .normal=>n5 T (T.dH F) te c0 rs (ie S rs) (T.out F)
  | _=>none
def codeOf (f:Func):Code:=match f.body with
 | some c=>c
 | none=>.skip
def lAt (T:Tab) (orc:List (Nat×Orc T)) (k F:Nat) (f:Func) (ln:Option (TypeId×Ty)) (p:List Nat) (m:Nat) (ns:List Nat) (S:ES):Option (T.out F).den:=match sub (codeOf f) p with
 | .loop c=>DZ (nE T F (fid c)) (fun S K=>code T F f.ntmps (fn T orc k) k c S K) m S (kont T F f.ntmps (fn T orc k) k (codeOf f) p ns (fin T F f.results.toList ln))
 | _=>none
end Go.Proofs.YtjimdhlmeebjeaaGreat.E
end
section
namespace Go.Proofs.YtjimdhlmeebjeaaGreat.E
open Go.RowKit Go.Proofs.YtjimdhlmeebjeaaGreatW.PrintWords Go.Proofs.YtjimdhlmeebjeaaGreatW.PrintMore Go.Proofs.YtjimdhlmeebjeaaGreat.V
set_option linter.unusedVariables false
variable {T:Tab}
def orc0 (ct:Ty) (f:Nat→Option ct.den):Orc T:=⟨ct,fun _ k vs=>match vs with
 | []=>f k
 | _=>none⟩
def orc1 (c0 ct:Ty) (f:Nat→c0.den→Option ct.den):Orc T:=⟨ct,fun _ k vs=>match vs with
 | [x0]=>match coe c0 x0 with
  | some a0=>f k a0
  | none=>none
 | _=>none⟩
def xn (c0 c1 ct:Ty) (f:Nat→c0.den→c1.den→Option ct.den):Orc T:=⟨ct,fun _ k vs=>match vs with
 | [x0,x1]=>match coe c0 x0,coe c1 x1 with
  | some a0,some a1=>f k a0 a1
  | _,_=>none
 | _=>none⟩
def orc3 (c0 c1 c2 ct:Ty) (f:Nat→c0.den→c1.den→c2.den→Option ct.den):Orc T:=⟨ct,fun _ k vs=>match vs with
 | [x0,x1,x2]=>match coe c0 x0,coe c1 x1,coe c2 x2 with
  | some a0,some a1,some a2=>f k a0 a1 a2
  | _,_,_=>none
 | _=>none⟩
structure dR (T:Tab) (x:Nat×Orc T):Prop where
 eN:find T.lent_ x.1=none
 callee:jW T.P x.1
 low:real x.1=x.1
 fn:∀ call k vs r,qM T call→x.2.g call k vs=some r→∃ p,(yg (T.dH x.1) x.2.t r).pv=some p∧V.Fn T.P x.1 (vs.map re) p
theorem orcOk_of {orc:List (Nat×Orc T)} (h:∀ x∈orc,dR T x):OrcOk T orc :=
 ⟨fun g o call k vs r h1 h2 h3 h4=>⟨(h _ (iN h1)).callee,(h _ (iN h1)).fn call k vs r h3 h4⟩,
  fun g o h1=>(h _ (iN h1)).low,
  fun g j e h1=>by
   cases h2:find orc g with
   | none=>rfl
   | some o =>
    have:=(h _ (iN h2)).eN
    rw [h1] at this
    cases this⟩
theorem kA {c:Ty} {v:Val} {x:c.den} (h:coe c v=some x):re v=c.pv x:=by simp only [re,ik h,Option.getD_some]
theorem lY {g:Nat} {c0 ct:Ty} {f:Nat→c0.den→Option ct.den} (hl:find T.lent_ g=none) (hc:jW T.P g) (hf:∀ k a0 r,f k a0=some r→∃ p,(yg (T.dH g) ct r).pv=some p∧V.Fn T.P g [c0.pv a0] p) (hr:real g=g:=by rfl):dR T (g,orc1 c0 ct f) :=
 ⟨hl,hc,hr,fun call k vs r _ h=>by
  simp only [orc1] at h
  split at h
  ·split at h
   ·rename_i x0 a0 h0
    simp only [List.map_cons,List.map_nil,kA h0]
    exact hf k a0 r h
   ·cases h
  ·cases h⟩
theorem eD {g:Nat} {c0 c1 ct:Ty} {f:Nat→c0.den→c1.den→Option ct.den} (hl:find T.lent_ g=none) (hc:jW T.P g) (hf:∀ k a0 a1 r,f k a0 a1=some r→∃ p,(yg (T.dH g) ct r).pv=some p∧V.Fn T.P g [c0.pv a0,c1.pv a1] p) (hr:real g=g:=by rfl):dR T (g,xn c0 c1 ct f) :=
 ⟨hl,hc,hr,fun call k vs r _ h=>by
  simp only [xn] at h
  split at h
  ·split at h
   ·rename_i x0 x1 _ _ a0 a1 h0 h1
    simp only [List.map_cons,List.map_nil,kA h0,kA h1]
    exact hf k a0 a1 r h
   ·cases h
  ·cases h⟩
theorem DL {g:Nat} {c0 c1 c2 ct:Ty} {f:Nat→c0.den→c1.den→c2.den→Option ct.den} (hl:find T.lent_ g=none) (hc:jW T.P g) (hf:∀ k a0 a1 a2 r,f k a0 a1 a2=some r→∃ p,(yg (T.dH g) ct r).pv=some p∧V.Fn T.P g [c0.pv a0,c1.pv a1,c2.pv a2] p) (hr:real g=g:=by rfl):dR T (g,orc3 c0 c1 c2 ct f) :=
 ⟨hl,hc,hr,fun call k vs r _ h=>by
  simp only [orc3] at h
  split at h
  ·split at h
   ·rename_i x0 x1 x2 _ _ _ a0 a1 a2 h0 h1 h2
    simp only [List.map_cons,List.map_nil,kA h0,kA h1,kA h2]
    exact hf k a0 a1 a2 r h
   ·cases h
  ·cases h⟩
theorem ints_enc (k:IntKind) (l:List Int):l.flatMap (Ty.enc (.int k))=V.ints k l:=by
 induction l with
 | nil=>rfl
 | cons x l ih=>rw [List.flatMap_cons,ih];rfl
theorem ff (k:IntKind) (l:List Int):PV.ints k l=(Ty.list (.int k)).pv l:=congrArg (fun z=>PV.cv (.row l.length z)) (ints_enc k l).symm
end Go.Proofs.YtjimdhlmeebjeaaGreat.E
end
section
namespace Go.Proofs.YtjimdhlmeebjeaaGreat.E
open Go.RowKit
abbrev fO:Ty:=(.pair .str (.pair (.int .u64) .unit))
abbrev ai:Ty:=(.pair .bool (.pair (.list (.int .i64)) (.pair (.list (.int .i64)) .unit)))
abbrev ah:Ty:=(.pair .bool (.pair (.list (.int .u32)) (.pair (.list (.int .u32)) .unit)))
abbrev jb:Ty:=(.pair (.int .i64) (.pair (.int .i64) (.pair .bool (.pair (.int .u8) .unit))))
abbrev aj:Ty:=(.pair (.list ah) (.pair (.int .i64) (.pair (.int .i64) .unit)))
abbrev aD:Ty:=(.pair (.list ai) (.pair (.int .i64) (.pair ai .unit)))
abbrev av:Ty:=(.pair (.list ah) (.pair (.int .i64) (.pair ah .unit)))
abbrev cL:Ty:=(.pair ah (.pair ah (.pair .bool (.pair .bool (.pair .bool (.pair .bool .unit))))))
abbrev eS:Ty:=(.pair ah (.pair ah (.pair ah (.pair ah .unit))))
def tyTab:List (Nat×Ty):=[(1,.fn),(2,(.int .i64)),(3,(.int .i64)),(4,.bool),(5,(.int .u8)),(6,(.int .u8)),(7,jb),(8,jb),(9,.str),(10,.str),(11,.str),(12,(.int .u64)),(13,fO),(14,fO),(21,(.int .i32)),(22,(.list av)),(23,.fn),(24,.fn),(25,.fn),(26,.fn),(27,(.list ah)),(28,(.list (.int .u32))),(29,ah),(30,ah),(31,av),(32,av),(33,.fn),(34,(.list (.int .i64))),(35,(.list (.int .i64))),(36,ai),(37,ai),(38,.fn),(39,.fn),(40,.fn),(41,.fn),(42,.fn),(43,(.int .i64)),(45,.fn),(46,.fn),(47,(.list ai)),(48,.fn),(49,.fn),(50,(.list aD)),(51,.fn),(52,.fn),(53,.fn),(55,.fn),(56,.fn),(57,.fn),(58,(.list (.int .i8))),(59,(.int .u16)),(60,.fn),(61,(.int .i8)),(62,.fn),(63,.fn),(65,.fn),(66,.fn),(67,.fn),(68,.fn),(69,.fn),(70,.fn),(71,.fn),(72,.fn),(73,.fn),(74,.fn),(76,.fn),(77,.fn),(78,.fn),(79,(.list aj)),(80,.fn),(81,.fn),(82,.fn),(83,aj),(84,aj),(85,.fn),(86,.fn),(87,aD),(88,aD),(89,.fn),(90,.fn),(91,.fn),(92,.fn),(93,.fn),(94,.fn),(95,.fn),(96,.fn),(97,.fn),(99,.fn),(100,cL),(101,cL),(102,.fn),(103,.fn),(104,.fn),(105,(.int .u32)),(106,.fn),(107,.fn),(108,.fn),(109,(.list (.list aj))),(110,.fn),(112,.fn),(113,(.int .u64)),(114,.fn),(115,.fn),(116,.fn),(117,.fn),(118,.fn),(119,.fn),(120,.fn),(121,.fn),(122,.fn),(123,.fn),(124,.fn),(125,(.int .u64)),(126,.fn),(127,.fn),(129,.fn),(131,.fn),(132,.fn),(133,.fn),(135,.fn),(137,.fn),(138,.fn),(139,.fn),(141,.fn),(143,.fn),(145,.fn),(146,.fn),(147,eS),(148,eS),(149,.fn),(150,.fn),(152,.fn),(153,.fn),(154,.fn),(155,.fn),(156,.fn),(157,.fn),(158,.fn),(160,.fn),(166,.fn)]
def elTab:List (Nat×Nat):=[(22,32),(27,30),(28,105),(34,3),(35,3),(47,37),(50,88),(58,61),(79,84),(109,79)]
def byTab:List (Nat×Nat):=[(3,8),(30,56),(32,88),(37,56),(61,1),(79,24),(84,40),(88,88),(105,4)]
def parTab:List (Nat×List Ty):=[(3,[(.int .i64),(.list av)]),(4,[(.int .i64),(.list av),av]),(5,[(.int .i64),(.list av),(.int .i64),(.list ah)]),(6,[(.int .i64),(.list av),(.list ah),(.list ah)]),(7,[(.int .i64),(.list av),(.list (.int .i8)),(.int .u16),(.int .u8)]),(8,[(.int .i64),(.list av)]),(9,[]),(10,[(.int .i64),(.list av),(.int .i64)]),(11,[(.int .i64),(.list av)]),(12,[ai]),(13,[ai]),(14,[ah]),(15,[(.list ah),(.int .i64)]),(16,[(.list ah)]),(17,[(.int .i64),(.list av),(.int .i64)]),(18,[(.list av),(.int .i64)]),(19,[(.int .i64),(.list av)]),(20,[(.list ah)]),(21,[(.list aD),(.list ai)]),(22,[(.list av)]),(23,[(.list aD),(.list ai),(.int .i64)]),(24,[(.int .i64),(.list av),(.list ah)]),(25,[(.int .i64),(.list av),(.list ah)]),(26,[(.int .i64),(.list aD),(.list ai)]),(27,[(.list av)]),(28,[(.int .i64)]),(29,[(.int .i64)]),(30,[(.int .i64),(.list av),(.list ah)]),(31,[ah,ai]),(32,[]),(33,[ah]),(34,[(.list av),(.list ai),(.int .i64),ai]),(35,[ah,(.int .i64)]),(36,[ah]),(37,[ai,ai]),(38,[ai,ai]),(39,[]),(40,[ai,(.int .i64)]),(41,[(.int .i64),(.list av)]),(42,[(.int .i64),(.list av)]),(43,[(.list (.int .i64))]),(44,[(.list (.int .u32))]),(45,[(.int .i64),(.list av)]),(46,[(.list aj),(.int .i64)]),(47,[(.list aj)]),(48,[(.int .i64),(.list av)]),(49,[ah]),(50,[aj]),(51,[ah]),(52,[ai,(.int .i64),ai]),(53,[(.list ai),(.list ai)]),(54,[ai]),(55,[ai,ai]),(56,[(.list ah),(.int .i64)]),(57,[ah,(.int .i64),ah]),(58,[(.list ah),(.list ah)]),(59,[]),(60,[ah]),(61,[ah,ah]),(62,[ah,ah]),(63,[ai,ai]),(64,[ai,ai]),(65,[ah]),(66,[(.int .i64)]),(67,[(.int .i64)]),(68,[(.list aj)]),(69,[(.list aj),(.int .i64),(.list ah)]),(70,[ah,ah]),(71,[(.list (.int .u32))]),(72,[(.list (.int .i64)),(.list (.int .i64))]),(73,[(.list (.int .i64)),(.list (.int .i64))]),(74,[(.list (.int .i64)),(.int .i64)]),(75,[ah,(.int .i64)]),(76,[(.list ah),(.int .i64)]),(77,[ah]),(78,[cL]),(79,[(.list (.int .i64)),(.int .i64)]),(80,[(.list (.int .i64)),(.int .i64),(.int .i64)]),(81,[(.list aj),(.int .i64),(.int .i64)]),(82,[ah,aj,ah,aj]),(83,[aj]),(84,[aj]),(85,[aj,aj]),(86,[ah,ah]),(87,[]),(88,[aj]),(89,[(.list (.int .u32)),(.list (.int .u32))]),(90,[(.list (.int .u32)),(.list (.int .u32))]),(91,[.bool,(.list (.int .u32)),(.list (.int .u32))]),(92,[(.list (.int .u32)),(.list (.int .u32))]),(93,[(.list (.int .u32)),(.list (.int .u32))]),(94,[(.list (.int .i64)),(.list (.int .i64))]),(95,[.bool,(.list (.int .i64)),(.list (.int .i64))]),(96,[(.list (.int .i64)),(.list (.int .i64))]),(97,[(.list (.int .i64)),(.list (.int .i64))]),(98,[(.int .u64)]),(99,[ah,ah]),(100,[ah,ah]),(101,[cL,ah,(.int .i64),.bool]),(102,[(.list (.int .u32)),(.list (.int .u32))]),(103,[(.list (.int .i64))]),(104,[(.list (.int .i64)),(.list (.int .i64))]),(105,[(.list (.int .u32)),(.int .i64)]),(106,[(.list (.int .u32)),(.list (.int .u32))]),(107,[(.list ah)]),(108,[ah,ah]),(109,[ah]),(110,[ah,ah]),(111,[ah,ah]),(112,[(.int .i64),(.int .i64)]),(113,[ah,ah]),(114,[ah,ah]),(115,[(.list (.int .i64))]),(116,[(.list (.int .u32))]),(117,[(.list (.int .u32)),(.list (.int .u32))]),(118,[(.list (.int .i64))]),(119,[ah]),(120,[(.list (.int .i64)),(.list (.int .i64))]),(121,[(.list (.int .u32)),(.list (.int .u32))]),(122,[(.list (.int .u32))]),(123,[(.list ah),ah]),(124,[ah]),(125,[eS,ah]),(126,[ah]),(127,[(.list (.int .u32)),(.int .u32)]),(128,[(.int .u32)]),(129,[(.list (.int .u32)),(.int .i64)]),(130,[(.list (.int .u32)),(.list (.int .u32)),(.int .u64)]),(131,[(.list (.int .u32)),(.list (.int .u32))]),(132,[(.list (.int .u32)),(.int .i64)]),(133,[(.list (.int .u32))]),(134,[(.list (.int .u32)),(.list (.int .u32)),(.int .i64),(.int .i64)]),(135,[(.list ah)]),(136,[ah,(.int .i64)]),(137,[(.int .u32)]),(1000053,[(.list ai),(.list ai)])]
def outTab:List (Nat×(Bool×Ty)):=[(3,(false,.bool)),(4,(false,.bool)),(5,(false,.bool)),(6,(false,.bool)),(7,(false,.bool)),(8,(false,.bool)),(9,(false,.bool)),(10,(false,.bool)),(11,(false,(.int .i64))),(12,(false,ah)),(13,(false,ai)),(14,(false,ai)),(15,(false,.bool)),(16,(false,.bool)),(17,(true,(.pair (.list av) (.pair (.int .i64) .unit)))),(18,(false,.bool)),(19,(false,.bool)),(20,(false,(.list ai))),(21,(false,.bool)),(22,(false,(.list aD))),(23,(false,.bool)),(24,(true,(.pair .bool (.pair (.int .i64) .unit)))),(25,(true,(.pair .bool (.pair (.int .i64) .unit)))),(26,(false,.bool)),(27,(false,.bool)),(28,(false,ai)),(29,(false,ah)),(30,(true,(.pair (.int .i64) (.pair ah (.pair (.int .i64) .unit))))),(31,(false,.bool)),(32,(false,ai)),(33,(false,.bool)),(34,(false,(.list av))),(35,(false,.bool)),(36,(false,.bool)),(37,(false,ai)),(38,(false,ai)),(39,(false,ai)),(40,(false,ai)),(41,(false,(.int .i64))),(42,(true,(.pair (.list ah) (.pair (.list ah) (.pair (.int .i64) .unit))))),(43,(false,(.list (.int .u32)))),(44,(false,(.list (.int .i64)))),(45,(false,(.int .i64))),(46,(false,(.list aj))),(47,(false,(.list aj))),(48,(false,(.list aj))),(49,(false,ah)),(50,(false,ah)),(51,(false,.bool)),(52,(false,.bool)),(53,(false,ai)),(54,(false,(.int .i64))),(55,(false,(.int .i64))),(56,(false,.bool)),(57,(false,.bool)),(58,(false,ah)),(59,(false,ah)),(60,(false,(.int .i64))),(61,(false,ah)),(62,(false,ah)),(63,(false,ai)),(64,(false,ai)),(65,(false,.bool)),(66,(false,(.list (.int .i64)))),(67,(false,ah)),(68,(true,(.pair aj (.pair .bool .unit)))),(69,(false,(.pair cL (.list ah)))),(70,(false,.bool)),(71,(false,.bool)),(72,(false,(.int .i64))),(73,(false,(.list (.int .i64)))),(74,(false,(.list (.int .i64)))),(75,(false,.bool)),(76,(false,(.list ah))),(77,(false,ah)),(78,(false,(.pair ah cL))),(79,(true,(.pair (.list (.int .i64)) (.pair (.int .i64) .unit)))),(80,(false,(.list (.int .i64)))),(81,(false,(.list aj))),(82,(false,aj)),(83,(false,.bool)),(84,(false,.bool)),(85,(false,.bool)),(86,(false,(.int .i64))),(87,(false,ah)),(88,(false,aj)),(89,(false,(.int .i64))),(90,(false,(.list (.int .u32)))),(91,(false,ah)),(92,(false,(.list (.int .u32)))),(93,(false,(.list (.int .u32)))),(94,(false,(.list (.int .i64)))),(95,(false,ai)),(96,(false,(.list (.int .i64)))),(97,(false,(.list (.int .i64)))),(98,(false,(.list (.int .u32)))),(99,(false,ah)),(100,(false,ah)),(101,(true,(.pair .unit cL))),(102,(false,.bool)),(103,(true,(.pair (.int .i64) (.pair .bool .unit)))),(104,(true,(.pair (.list (.int .i64)) (.pair (.list (.int .i64)) .unit)))),(105,(false,.bool)),(106,(false,(.list (.int .u32)))),(107,(false,(.list ah))),(108,(false,ah)),(109,(false,ah)),(110,(false,ah)),(111,(false,.bool)),(112,(false,ah)),(113,(true,(.pair ah (.pair (.int .i64) .unit)))),(114,(false,ah)),(115,(false,(.list (.int .i64)))),(116,(false,(.list (.int .u32)))),(117,(true,(.pair (.list (.int .u32)) (.pair (.list (.int .u32)) .unit)))),(118,(false,(.list (.int .i64)))),(119,(false,ah)),(120,(false,(.int .i64))),(121,(true,(.pair (.list (.int .u32)) (.pair (.list (.int .u32)) (.pair .bool .unit))))),(122,(true,(.pair (.int .u64) (.pair .bool .unit)))),(123,(false,(.list ah))),(124,(false,.bool)),(125,(true,(.pair .unit eS))),(126,(true,(.pair ah (.pair (.int .i64) .unit)))),(127,(true,(.pair (.list (.int .u32)) (.pair (.int .u32) .unit)))),(128,(false,(.int .i64))),(129,(false,(.list (.int .u32)))),(130,(false,.bool)),(131,(true,.unit)),(132,(false,(.list (.int .u32)))),(133,(false,(.int .i64))),(134,(false,(.list (.int .u32)))),(135,(false,(.list ah))),(136,(false,.bool)),(137,(false,(.int .i64))),(1000053,(false,(.pair ai (.list ai))))]
def ownTab:List (Nat×List Nat):=[(4,[34,36,63,72,78,82,84,2000009,4000063]),(7,[11,12,49,54,55,60]),(17,[9,44,55,59,62,65,2000012,4000044]),(20,[3,12,16]),(22,[3,12,23]),(23,[7,20,22,34,60,1000000053]),(25,[11,34,40,89]),(26,[9,18,24,75]),(30,[10,39,44,47,50,56]),(34,[13,25,29,39,41,2000009,4000013]),(42,[4,8,14,29,34,42,64,81,90,104,108]),(43,[3,6,17,20,47,50]),(46,[7,8,9,53,56,59,62,65,68,82,98]),(47,[3,56,62,65]),(48,[5,20,24,28,40,43,46,50,2000008]),(66,[3,4,7,11]),(76,[7,34,42]),(79,[6,11,26]),(80,[7,13,25,29,35,39]),(81,[7,51,54]),(82,[14,22,30,2000009]),(90,[5,24,54,64]),(92,[5,19,42,50]),(93,[5,12,35]),(94,[5,18,45,69]),(96,[5,44,48]),(97,[5,10,36]),(104,[12,56,75]),(117,[4,6,10,33,35,52,53,64,156,162]),(118,[5]),(123,[5,10,18]),(127,[6,11,27]),(129,[7,24,36,46]),(130,[0,37,57]),(131,[0,24,32]),(132,[7,23,54])]
def liveTab:List (Nat×List (Nat×List (Nat×Bool×TypeId))):=[(4,[(13,[(0,false,3),(1,false,22),(7,false,3),(8,false,3),(9,true,0),(65,false,27),(66,false,3),(67,false,3)])]),(5,[(10,[(0,false,3),(1,false,22),(2,false,3),(3,false,27),(9,false,22),(10,false,43),(11,false,3),(55,false,22),(56,false,3),(57,false,3)]),(14,[(0,false,3),(1,false,22),(2,false,3),(3,false,27),(9,false,22),(10,false,43),(11,false,3),(55,false,22),(56,false,3),(57,false,3)]),(20,[(1,false,22),(2,false,3),(3,false,27),(9,false,22),(92,false,22),(93,false,3),(94,false,3)])]),(7,[(8,[(0,false,3),(1,false,22),(3,false,59),(4,false,5),(11,true,47),(12,true,27),(43,false,58),(44,false,3),(45,false,3)])]),(8,[(9,[(0,false,3),(1,false,22),(5,false,43),(6,false,43)]),(13,[(0,false,3),(1,false,22),(6,false,43)])]),(15,[(4,[(11,false,27),(12,false,3),(13,false,3)])]),(16,[(2,[(5,false,27),(6,false,3),(7,false,3)])]),(17,[(8,[(0,false,3),(9,true,22),(33,false,79),(34,false,3),(35,false,3)]),(12,[(0,false,3),(9,true,22),(12,true,0),(33,false,79),(34,false,3),(35,false,3),(48,false,27),(49,false,3),(50,false,3)])]),(18,[(2,[(1,false,3),(9,false,22),(10,false,3),(11,false,3)]),(7,[(1,false,3),(9,false,22),(10,false,3),(11,false,3),(27,false,27),(28,false,3),(29,false,3)])]),(19,[(4,[(0,false,3),(20,false,22),(21,false,3),(22,false,3)]),(9,[(0,false,3),(20,false,22),(21,false,3),(22,false,3),(48,false,27),(49,false,3),(50,false,3)])]),(20,[(3,[(3,true,47),(6,false,27),(7,false,3),(8,false,3)])]),(21,[(2,[(1,false,47),(7,false,50),(8,false,3),(9,false,3)])]),(22,[(3,[(3,true,50),(6,false,22),(7,false,3),(8,false,3)])]),(23,[(5,[(0,false,50),(2,false,3),(7,true,47),(8,false,0),(9,false,0),(10,false,4),(11,false,4),(12,false,4),(13,false,4),(23,false,50),(24,false,3),(25,false,3)]),(26,[(0,false,50),(2,false,3),(7,true,47),(8,false,0),(9,false,0),(10,false,4),(11,false,4),(12,false,4),(13,false,4),(23,false,50),(24,false,3),(25,false,3)])]),(24,[(7,[(2,false,27),(21,false,22),(22,false,3),(23,false,3)])]),(25,[(9,[(1,false,22),(2,false,27),(9,false,0),(10,false,4),(11,true,27),(36,false,3),(37,false,3)]),(14,[(2,false,27),(9,false,0),(10,false,4),(11,true,27),(45,false,22),(46,false,3),(47,false,3)]),(22,[(2,false,27),(9,false,0),(10,false,4),(11,true,27),(15,false,0),(45,false,22),(46,false,3),(47,false,3),(82,false,27),(83,false,3),(84,false,3)]),(28,[(9,false,0),(10,false,4),(102,false,27),(103,false,3),(104,false,3)])]),(26,[(4,[(1,false,50),(2,false,47),(7,false,0),(8,false,4),(9,true,47),(20,false,3),(21,false,3)]),(9,[(2,false,47),(7,false,0),(8,false,4),(9,true,47),(29,false,50),(30,false,3),(31,false,3)]),(16,[(2,false,47),(7,false,0),(8,false,4),(9,true,47),(11,false,3),(12,false,0),(29,false,50),(30,false,3),(31,false,3),(71,false,3),(72,false,3)]),(22,[(7,false,0),(8,false,4),(95,false,47),(96,false,3),(97,false,3)])]),(27,[(2,[(7,false,22),(8,false,3),(9,false,3)]),(7,[(7,false,22),(8,false,3),(9,false,3),(18,false,27),(19,false,3),(20,false,3)])]),(30,[(8,[(0,false,3),(2,false,27),(7,false,0),(10,true,22),(31,false,22),(32,false,3),(33,false,3)]),(16,[(0,false,3),(7,false,0),(14,false,79),(64,false,3),(65,false,3)])]),(34,[(3,[(0,false,22),(2,false,3),(7,false,0),(9,true,0),(14,false,47),(15,false,3),(16,false,3)]),(7,[(0,false,22),(2,false,3),(7,false,0),(9,true,0),(11,false,0),(14,false,47),(15,false,3),(16,false,3)]),(11,[(0,false,22),(7,false,0),(9,true,0)])]),(41,[(4,[(0,false,3),(20,false,22),(21,false,3),(22,false,3)]),(9,[(0,false,3),(20,false,22),(21,false,3),(22,false,3),(48,false,27),(49,false,3),(50,false,3)])]),(42,[(6,[(0,false,3),(1,false,22),(8,true,109),(30,false,3),(31,false,3)]),(11,[(0,false,3),(1,false,22),(8,true,109),(44,true,109),(45,false,3),(46,false,3)]),(18,[(14,true,27),(74,true,27),(75,false,3),(76,false,3)]),(22,[(14,true,27)]),(26,[(4,true,27),(8,true,109),(17,false,3)])]),(43,[(2,[(0,false,35),(3,true,34)]),(8,[(3,true,34),(6,true,28),(7,false,3)]),(13,[(3,true,34),(6,true,28),(7,false,3),(8,false,105)])]),(44,[(3,[(0,false,28),(3,false,35),(4,false,3)])]),(46,[(2,[(0,false,79),(1,false,3),(16,false,79),(17,false,3),(18,false,3)]),(9,[(1,false,3),(7,true,79),(8,true,79),(9,true,79),(41,false,79),(42,false,3),(43,false,3)]),(17,[(1,false,3),(7,true,79),(8,true,79),(9,true,79),(41,false,79),(42,false,3),(43,false,3)]),(19,[(1,false,3),(7,true,79),(9,true,79),(70,false,79),(71,false,3),(72,false,3)]),(22,[(1,false,3),(7,true,79),(9,true,79),(13,false,0),(70,false,79),(71,false,3),(72,false,3),(76,true,79),(77,false,3),(78,false,3)])]),(47,[(3,[(3,true,79),(10,false,79),(11,false,3),(12,false,3)]),(8,[(3,true,79),(5,false,0),(6,false,4),(10,false,79),(11,false,3),(12,false,3),(23,true,79),(24,false,3),(25,false,3)]),(14,[(3,true,79),(5,false,0),(10,false,79),(11,false,3),(12,false,3),(23,true,79),(24,false,3),(25,false,3)]),(15,[(3,true,79),(5,false,0),(6,false,4),(10,false,79),(11,false,3),(12,false,3),(23,true,79),(24,false,3),(25,false,3)]),(18,[(3,true,79),(10,false,79),(11,false,3),(12,false,3)])]),(48,[(3,[(0,false,3),(1,false,22),(5,true,79),(11,false,22),(12,false,3),(13,false,3)]),(7,[(0,false,3),(1,false,22),(5,true,79),(6,false,3),(8,true,0),(11,false,22),(12,false,3),(13,false,3),(30,false,3),(31,false,3)]),(12,[(0,false,3),(1,false,22),(5,true,79),(6,false,3),(8,true,0),(10,false,0),(11,false,22),(12,false,3),(13,false,3),(30,false,3),(31,false,3)])]),(53,[(3,[(0,false,47),(1,false,47),(4,false,0),(5,false,0),(9,false,3),(10,false,3)])]),(56,[(2,[(0,false,27),(1,false,3),(7,false,27),(8,false,3),(9,false,3)])]),(58,[(3,[(1,false,27),(4,false,0),(5,false,0),(9,false,27),(10,false,3),(11,false,3)])]),(61,[(4,[(2,false,0),(3,false,0),(4,false,0),(5,false,28),(6,false,28),(7,false,28)])]),(66,[(2,[(0,false,3),(3,true,35)])]),(68,[(2,[(2,false,0),(6,false,79),(7,false,3),(8,false,3)])]),(69,[(3,[(1,false,3),(2,false,27),(6,false,0),(7,false,0),(14,false,79),(15,false,3),(16,false,3)]),(9,[(1,false,3),(2,false,27),(6,false,0),(7,false,0),(9,false,0),(10,false,0),(11,false,0),(12,false,3),(14,false,79),(15,false,3),(16,false,3)]),(17,[(1,false,3),(2,false,27),(6,false,0),(7,false,0),(14,false,79),(15,false,3),(16,false,3)])]),(72,[(6,[(0,false,35),(1,false,35),(5,false,3)])]),(73,[(1,[(0,false,35),(1,false,35)]),(5,[(5,false,3),(7,false,3)])]),(74,[(3,[(0,false,35),(5,false,35),(7,false,3),(8,false,3)])]),(76,[(2,[(0,false,27),(1,false,3),(10,false,3),(11,false,3)]),(8,[(6,false,0),(7,true,27),(35,true,27),(36,false,3),(37,false,3)])]),(79,[(4,[(0,false,35),(1,false,3),(6,true,35),(7,false,3),(8,false,3)])]),(80,[(3,[(1,false,3),(2,false,3),(7,true,35),(14,false,35),(15,false,3),(16,false,3)]),(9,[(2,false,3),(7,true,35)])]),(81,[(4,[(1,false,3),(2,false,3),(7,true,79),(8,false,0),(17,false,79),(18,false,3),(19,false,3)]),(12,[(1,false,3),(2,false,3),(7,true,79),(8,false,0),(10,false,0),(17,false,79),(18,false,3),(19,false,3)]),(13,[(1,false,3),(2,false,3),(7,true,79),(8,false,0),(17,false,79),(18,false,3),(19,false,3)])]),(82,[(3,[(4,false,0),(5,false,0),(6,false,0),(7,false,0),(8,false,0),(9,true,0),(25,false,3),(26,false,3)])]),(83,[(2,[(9,false,27),(10,false,3),(11,false,3)])]),(85,[(4,[(2,false,0),(3,false,0),(15,false,3),(16,false,3)])]),(89,[(6,[(0,false,28),(1,false,28),(5,false,3)])]),(90,[(5,[(1,false,28),(5,true,28),(25,false,28),(26,false,3),(27,false,3)]),(9,[(1,false,28),(5,true,28),(6,false,3),(7,false,105),(8,false,125),(25,false,28),(26,false,3),(27,false,3),(32,false,28),(33,false,3),(34,false,3)])]),(91,[(7,[(0,false,4),(1,false,28),(2,false,28),(6,false,0)])]),(92,[(3,[(0,false,28),(1,false,28)]),(6,[(0,false,28),(1,false,28),(5,true,28),(6,false,125),(20,false,28),(21,false,3),(22,false,3)]),(11,[(0,false,28),(1,false,28),(5,true,28),(6,false,125),(7,false,3),(20,false,28),(21,false,3),(22,false,3)])]),(93,[(4,[(1,false,28),(5,true,28),(6,false,125),(13,false,28),(14,false,3),(15,false,3)]),(9,[(1,false,28),(5,true,28),(7,false,3),(9,false,125),(13,false,28),(14,false,3),(15,false,3)])]),(94,[(3,[(1,false,35),(5,true,35),(19,false,35),(20,false,3),(21,false,3)]),(7,[(1,false,35),(5,true,35),(6,false,3),(7,false,3),(8,false,3),(19,false,35),(20,false,3),(21,false,3),(26,false,35),(27,false,3),(28,false,3)]),(14,[(1,false,35),(5,true,35),(8,false,3),(11,false,3),(19,false,35),(20,false,3),(21,false,3)])]),(96,[(4,[(0,false,35),(1,false,35),(5,true,35),(6,false,3),(7,false,3)]),(8,[(0,false,35),(1,false,35),(5,true,35),(6,false,3),(7,false,3)]),(10,[(0,false,35),(1,false,35),(5,true,35),(6,false,3),(7,false,3)])]),(97,[(4,[(1,false,35),(5,true,35),(6,false,3),(12,false,3),(13,false,3)]),(9,[(1,false,35),(5,true,35),(7,false,3),(8,false,3),(12,false,3),(13,false,3)]),(13,[(1,false,35),(5,true,35),(6,false,3),(7,false,3),(8,false,3),(12,false,3),(13,false,3)])]),(101,[(5,[(0,false,134),(3,false,4),(5,false,0),(8,false,3)]),(7,[(0,false,134),(3,false,4),(8,false,3)]),(11,[(0,false,134),(3,false,4),(5,false,0),(9,false,3)]),(13,[(0,false,134),(3,false,4),(9,false,3)])]),(102,[(4,[(0,false,28),(1,false,28),(12,false,3),(13,false,3)])]),(103,[(5,[(0,false,35),(4,false,3),(5,false,3)])]),(104,[(13,[(0,false,35),(1,false,35),(12,true,35),(13,false,35),(14,false,3)]),(14,[(0,false,35),(1,false,35),(12,true,35),(13,false,35),(14,false,3)])]),(106,[(3,[(0,false,28),(1,false,28)]),(14,[(12,false,125),(14,false,125)])]),(107,[(5,[(0,false,27),(3,false,28),(4,false,28),(17,false,27),(18,false,3),(19,false,3)]),(11,[(0,false,27),(3,false,28),(4,false,28),(37,false,27),(38,false,3),(39,false,3)])]),(109,[(4,[(1,false,0),(2,false,0),(3,false,28)])]),(113,[(13,[(2,false,0),(3,false,0),(4,false,0),(8,false,0)]),(21,[(4,false,0),(8,false,0)])]),(115,[(2,[(0,false,35),(3,false,3)])]),(116,[(1,[(0,false,28)])]),(117,[(14,[(4,true,28),(8,false,3),(9,false,28),(10,true,28),(11,false,3),(12,false,125),(13,false,125),(14,false,3)]),(18,[(4,true,28),(8,false,3),(9,false,28),(10,true,28),(11,false,3),(12,false,125),(13,false,125),(14,false,3),(16,false,125),(17,false,125)]),(22,[(4,true,28),(8,false,3),(9,false,28),(10,true,28),(11,false,3),(12,false,125),(13,false,125),(14,false,3),(16,false,125)]),(25,[(4,true,28),(8,false,3),(9,false,28),(10,true,28),(11,false,3),(12,false,125),(13,false,125),(14,false,3),(16,false,125)])]),(120,[(4,[(0,false,35),(1,false,35),(5,false,3),(6,false,3),(7,false,3),(8,false,3)]),(5,[(0,false,35),(1,false,35),(5,false,3),(6,false,3),(7,false,3),(8,false,3)]),(10,[(0,false,35),(1,false,35),(5,false,3),(6,false,3),(7,false,3),(9,false,3)]),(15,[(0,false,35),(1,false,35),(6,false,3),(7,false,3)]),(16,[(0,false,35),(1,false,35),(10,false,3)]),(18,[(0,false,35),(1,false,35),(10,false,3)])]),(121,[(8,[(0,false,28),(1,false,28),(12,false,2),(13,false,2),(14,false,2),(15,false,2),(16,false,2),(17,false,2)]),(14,[(0,false,28),(1,false,28),(12,false,2),(13,false,2),(14,false,2),(15,false,2)])]),(123,[(3,[(3,false,0),(5,true,27),(11,false,27),(12,false,3),(13,false,3)])]),(127,[(4,[(0,false,28),(1,false,105),(6,true,28),(7,false,125),(8,false,3)])]),(129,[(6,[(5,false,3),(6,false,113),(7,true,28),(25,false,28),(26,false,3),(27,false,3)])]),(130,[(3,[(0,true,28),(1,false,28),(2,false,125),(7,false,125),(8,false,125),(13,false,28),(14,false,3),(15,false,3)])]),(131,[(2,[(0,true,28),(1,false,28),(4,false,125),(7,false,28),(8,false,3),(9,false,3)])]),(132,[(6,[(0,false,28),(5,false,3),(6,false,113),(7,true,28),(25,false,3),(26,false,3)]),(11,[(0,false,28),(5,false,3),(6,false,113),(7,true,28),(8,false,3),(9,false,125),(25,false,3),(26,false,3)])]),(135,[(1,[(0,false,27)])]),(137,[(4,[(0,false,105),(2,false,3)]),(7,[(0,false,105),(2,false,3)])]),(1000053,[(3,[(0,false,47),(1,false,47),(4,false,0),(5,false,0),(9,false,3),(10,false,3)])])]
def lentTab:List (Nat×(Nat×TypeId)):=[(69,(2,30)),(78,(0,101)),(101,(0,101)),(125,(0,148)),(1000053,(1,37))]
noncomputable def T:Tab:={ P:=Tryz.prog,ty:=tyTab,el:=elTab,by_:=byTab,par:=parTab,out_:=outTab,lent_:=lentTab,own:=ownTab,live:=liveTab }
end Go.Proofs.YtjimdhlmeebjeaaGreat.E
end
section
namespace Go.Proofs.YtjimdhlmeebjeaaGreatW.PrintLast
def up (b:Nat→Bool) (i:Nat):Nat→Bool:=fun j=>if j=i then true else b j
end Go.Proofs.YtjimdhlmeebjeaaGreatW.PrintLast
end
namespace Go.Proofs.YtjimdhlmeebjeaaGreatW
open PrintWords
theorem bB {P : Prop} (h : P := by repeat (first | (with_reducible first | exact HB.out | apply PrintWords.below_alloc | apply PrintWords.pw_below_drewN | apply PrintWords.below_drew1) | exact HB.out)) : P := h
theorem dR {A B : Prop} (h : A) (g : A → B := by intro h_; (with_reducible repeat (first | apply PrintWords.Kd.R_alloc | apply PrintWords.Kd.R_drewN | apply PrintWords.Kd.R_drew)); exact h_) : B := g h
theorem dV {A B : Prop} (h : A) (g : A → B := by intro h_; (with_reducible repeat (first | apply PrintWords.Kd.V_alloc | apply PrintWords.Kd.V_drewN | apply PrintWords.Kd.V_drew)); exact h_) : B := g h
theorem dC {A B : Prop} (h : A) (g : A → B := by intro h_; repeat (first | exact h_ | (with_reducible refine PrintWords.Kd.C_alloc ?_ _) | (with_reducible refine PrintWords.Kd.C_drewN ?_ _) | (with_reducible refine PrintWords.Kd.C_drew ?_))) : B := g h
theorem dQ {P : Prop} (h : P := by first | exact ⟨rfl, _, World.drewN_drewN _ _ _⟩ | exact ⟨rfl, _, Eq.trans (World.drewN_drewN _ _ _) (congrArg (World.drewN _) (Nat.add_assoc _ _ _))⟩) : P := h
theorem aS {P : Prop} (h : P := by first | (with_reducible assumption) | assumption) : P := h
end Go.Proofs.YtjimdhlmeebjeaaGreatW
section
namespace Go.Proofs.YtjimdhlmeebjeaaGreat.P
open Go.RowKit Go.Proofs.YtjimdhlmeebjeaaGreatW.PrintWords Go.Proofs.YtjimdhlmeebjeaaGreatW.PrintLast Go.Proofs.YtjimdhlmeebjeaaGreatW.PrintMore Go.Proofs.YtjimdhlmeebjeaaGreatW
attribute [local go_sem] vJ vH y6 yZ xu xt Ar Ap
set_option linter.unusedVariables false
set_option linter.unusedSimpArgs false
structure S30 where
 f0:Bool
 f1:(List Int)
 f2:(List Int)
def z30:S30:=⟨false,([]:List Int),([]:List Int)⟩
def cR (xs:List S30) (i:Int):S30:=xs.getD i.toNat z30
structure S32 where
 f0:(List S30)
 f1:Int
 f2:S30
def z32:S32:=⟨([]:List S30),(0:Int),z30⟩
def bQ (xs:List S32) (i:Int):S32:=xs.getD i.toNat z32
structure S84 where
 f0:(List S30)
 f1:Int
 f2:Int
def z84:S84:=⟨([]:List S30),(0:Int),(0:Int)⟩
def ui (xs:List S84) (i:Int):S84:=xs.getD i.toNat z84
structure S37 where
 f0:Bool
 f1:(List Int)
 f2:(List Int)
def z37:S37:=⟨false,([]:List Int),([]:List Int)⟩
def uj (xs:List S37) (i:Int):S37:=xs.getD i.toNat z37
structure S88 where
 f0:(List S37)
 f1:Int
 f2:S37
end Go.Proofs.YtjimdhlmeebjeaaGreat.P
end
section
namespace Go.Proofs.YtjimdhlmeebjeaaGreat.P
open Go.RowKit Go.Proofs.YtjimdhlmeebjeaaGreatW.PrintWords Go.Proofs.YtjimdhlmeebjeaaGreatW.PrintLast Go.Proofs.YtjimdhlmeebjeaaGreatW.PrintMore Go.Proofs.YtjimdhlmeebjeaaGreatW
attribute [local go_sem] vJ vH y6 yZ xu xt Ar Ap
set_option linter.unusedVariables false
set_option linter.unusedSimpArgs false
def iW.f (l0:List Int) (a1:Int):Option (Bool):=if (l0.length:Int)≤a1 then (if (l0.length:Int)=0 then (some true) else (if 0≤(wrap64 ((l0.length:Int)-1)) then (if (wrap64 ((l0.length:Int)-1))<(l0.length:Int) then (some ((rd l0 (wrap64 ((l0.length:Int)-1))) != 0)) else (none)) else (none))) else (some false)
def cX.l0:Nat→List Int→List Int→Int→Option (Int)
 | 0,_,_,_=>none
 | k+1,x0,x1,x5=>if x5≥0 then (if 0≤x5 then (if x5<(x0.length:Int) then (if x5<(x1.length:Int) then (if (rd x0 x5)=(rd x1 x5) then (cX.l0 k x0 x1 (wrap64 (x5-1))) else (if (rd x0 x5)<(rd x1 x5) then (some (-1)) else (some 1))) else (none)) else (none)) else (none)) else (some 0)
def cX.f (k:Nat) (l0:List Int) (l1:List Int):Option (Int):=if (l0.length:Int)=(l1.length:Int) then (cX.l0 k l0 l1 (wrap64 ((l0.length:Int)-1))) else (if (l0.length:Int)<(l1.length:Int) then (some (-1)) else (some 1))
def cJ.l0:Nat→List Int→Option (List Int)
 | 0,_=>none
 | k+1,x0=>if (x0.length:Int)>0 then (if 0≤(wrap64 ((x0.length:Int)-1)) then (if (wrap64 ((x0.length:Int)-1))<(x0.length:Int) then (if (rd x0 (wrap64 ((x0.length:Int)-1)))=0 then (if (wrap64 ((x0.length:Int)-1))≤(x0.length:Int) then (cJ.l0 k (x0.take ((wrap64 ((x0.length:Int)-1)):Int).toNat)) else (none)) else (some x0)) else (none)) else (none)) else (some x0)
def cJ.f (k:Nat) (l0:List Int):Option (List Int):=cJ.l0 k l0
def dE.f (k:Nat) (a0:Int):Option (List Int):=(cJ.f k (([(a0) % 4294967296,(a0 / 4294967296) % 4294967296]:List Int))).bind fun t115=>(some t115)
def di.l0:Nat→List Int→Int→List Int→Int→Int→Option (List Int×Int)
 | 0,_,_,_,_,_=>none
 | k+1,x0,x1,x6,x7,x8=>if x8≥0 then (if 0≤x8 then (if x8<(x0.length:Int) then (if (IntKind.u64.wrap (x1))=0 then (none) else (if x8<(x6.length:Int) then (di.l0 k x0 x1 (x6.set (x8:Int).toNat ((IntKind.u64.wrap (Int.tdiv (Go.bits .or .u64 (IntKind.u64.wrap (x7*4294967296)) (IntKind.u64.wrap (rd x0 x8))) (IntKind.u64.wrap (x1)))) % 4294967296)) (Int.tmod (Go.bits .or .u64 (IntKind.u64.wrap (x7*4294967296)) (IntKind.u64.wrap (rd x0 x8))) (IntKind.u64.wrap (x1))) (wrap64 (x8-1))) else (none))) else (none)) else (none)) else ((cJ.f k x6).bind fun t123=>(some (t123,(x7) % 4294967296)))
def di.f (k:Nat) (l0:List Int) (a1:Int):Option (List Int×Int):=if 0≤(l0.length:Int) then (if ((l0.length:Int):Int).toNat≤70368744177664 then (di.l0 k l0 a1 (List.replicate ((l0.length:Int):Int).toNat 0) 0 (wrap64 ((l0.length:Int)-1))) else (none)) else (none)
def iL.f (a0:Int):Option (Int):=if a0≥65536 then (if (a0 / 65536)≥256 then (if 0≤(((a0 / 65536) / 256) % 256) then (if (((a0 / 65536) / 256) % 256)<256 then (some (wrap64 ((16+8)+(wrap64 (bt (⟨#[0,1,2,2,3,3,3,3,4,4,4,4,4,4,4,4,5,5,5,5,5,5,5,5,5,5,5,5,5,5,5,5,6,6,6,6,6,6,6,6,6,6,6,6,6,6,6,6,6,6,6,6,6,6,6,6,6,6,6,6,6,6,6,6,7,7,7,7,7,7,7,7,7,7,7,7,7,7,7,7,7,7,7,7,7,7,7,7,7,7,7,7,7,7,7,7,7,7,7,7,7,7,7,7,7,7,7,7,7,7,7,7,7,7,7,7,7,7,7,7,7,7,7,7,7,7,7,7,8,8,8,8,8,8,8,8,8,8,8,8,8,8,8,8,8,8,8,8,8,8,8,8,8,8,8,8,8,8,8,8,8,8,8,8,8,8,8,8,8,8,8,8,8,8,8,8,8,8,8,8,8,8,8,8,8,8,8,8,8,8,8,8,8,8,8,8,8,8,8,8,8,8,8,8,8,8,8,8,8,8,8,8,8,8,8,8,8,8,8,8,8,8,8,8,8,8,8,8,8,8,8,8,8,8,8,8,8,8,8,8,8,8,8,8,8,8,8,8,8,8,8,8,8,8,8,8]⟩:ByteArray) (((a0 / 65536) / 256) % 256)))))) else (none)) else (none)) else (if 0≤((a0 / 65536) % 256) then (if ((a0 / 65536) % 256)<256 then (some (wrap64 (16+(wrap64 (bt (⟨#[0,1,2,2,3,3,3,3,4,4,4,4,4,4,4,4,5,5,5,5,5,5,5,5,5,5,5,5,5,5,5,5,6,6,6,6,6,6,6,6,6,6,6,6,6,6,6,6,6,6,6,6,6,6,6,6,6,6,6,6,6,6,6,6,7,7,7,7,7,7,7,7,7,7,7,7,7,7,7,7,7,7,7,7,7,7,7,7,7,7,7,7,7,7,7,7,7,7,7,7,7,7,7,7,7,7,7,7,7,7,7,7,7,7,7,7,7,7,7,7,7,7,7,7,7,7,7,7,8,8,8,8,8,8,8,8,8,8,8,8,8,8,8,8,8,8,8,8,8,8,8,8,8,8,8,8,8,8,8,8,8,8,8,8,8,8,8,8,8,8,8,8,8,8,8,8,8,8,8,8,8,8,8,8,8,8,8,8,8,8,8,8,8,8,8,8,8,8,8,8,8,8,8,8,8,8,8,8,8,8,8,8,8,8,8,8,8,8,8,8,8,8,8,8,8,8,8,8,8,8,8,8,8,8,8,8,8,8,8,8,8,8,8,8,8,8,8,8,8,8,8,8,8,8,8,8]⟩:ByteArray) ((a0 / 65536) % 256)))))) else (none)) else (none))) else (if a0≥256 then (if 0≤((a0 / 256) % 256) then (if ((a0 / 256) % 256)<256 then (some (wrap64 ((0+8)+(wrap64 (bt (⟨#[0,1,2,2,3,3,3,3,4,4,4,4,4,4,4,4,5,5,5,5,5,5,5,5,5,5,5,5,5,5,5,5,6,6,6,6,6,6,6,6,6,6,6,6,6,6,6,6,6,6,6,6,6,6,6,6,6,6,6,6,6,6,6,6,7,7,7,7,7,7,7,7,7,7,7,7,7,7,7,7,7,7,7,7,7,7,7,7,7,7,7,7,7,7,7,7,7,7,7,7,7,7,7,7,7,7,7,7,7,7,7,7,7,7,7,7,7,7,7,7,7,7,7,7,7,7,7,7,8,8,8,8,8,8,8,8,8,8,8,8,8,8,8,8,8,8,8,8,8,8,8,8,8,8,8,8,8,8,8,8,8,8,8,8,8,8,8,8,8,8,8,8,8,8,8,8,8,8,8,8,8,8,8,8,8,8,8,8,8,8,8,8,8,8,8,8,8,8,8,8,8,8,8,8,8,8,8,8,8,8,8,8,8,8,8,8,8,8,8,8,8,8,8,8,8,8,8,8,8,8,8,8,8,8,8,8,8,8,8,8,8,8,8,8,8,8,8,8,8,8,8,8,8,8,8,8]⟩:ByteArray) ((a0 / 256) % 256)))))) else (none)) else (none)) else (if 0≤((a0) % 256) then (if ((a0) % 256)<256 then (some (wrap64 (0+(wrap64 (bt (⟨#[0,1,2,2,3,3,3,3,4,4,4,4,4,4,4,4,5,5,5,5,5,5,5,5,5,5,5,5,5,5,5,5,6,6,6,6,6,6,6,6,6,6,6,6,6,6,6,6,6,6,6,6,6,6,6,6,6,6,6,6,6,6,6,6,7,7,7,7,7,7,7,7,7,7,7,7,7,7,7,7,7,7,7,7,7,7,7,7,7,7,7,7,7,7,7,7,7,7,7,7,7,7,7,7,7,7,7,7,7,7,7,7,7,7,7,7,7,7,7,7,7,7,7,7,7,7,7,7,8,8,8,8,8,8,8,8,8,8,8,8,8,8,8,8,8,8,8,8,8,8,8,8,8,8,8,8,8,8,8,8,8,8,8,8,8,8,8,8,8,8,8,8,8,8,8,8,8,8,8,8,8,8,8,8,8,8,8,8,8,8,8,8,8,8,8,8,8,8,8,8,8,8,8,8,8,8,8,8,8,8,8,8,8,8,8,8,8,8,8,8,8,8,8,8,8,8,8,8,8,8,8,8,8,8,8,8,8,8,8,8,8,8,8,8,8,8,8,8,8,8,8,8,8,8,8,8]⟩:ByteArray) ((a0) % 256)))))) else (none)) else (none)))
def cQ.f (a0:Int):Option (Int):=(iL.f a0).bind fun t126=>(some (wrap64 (32-t126)))
def fk.l0:Nat→Int→Int→List Int→List Int→Int→Int→Option (List Int)
 | 0,_,_,_,_,_,_=>none
 | k+1,x5,x6,x7,x25,x26,x27=>if x27<x26 then (if 0≤x27 then (if x27<(x25.length:Int) then (if 0≤x6 then (if 0≤(wrap64 (x27+x5)) then (if (wrap64 (x27+x5))<(x7.length:Int) then (if 0≤(wrap64 ((wrap64 (x27+x5))+1)) then (if (wrap64 ((wrap64 (x27+x5))+1))<(x7.length:Int) then (fk.l0 k x5 x6 ((x7.set ((wrap64 (x27+x5)):Int).toNat (Go.bits .or .u32 (rd x7 (wrap64 (x27+x5))) ((shl .u64 (IntKind.u64.wrap (rd x25 x27)) x6) % 4294967296))).set ((wrap64 ((wrap64 (x27+x5))+1)):Int).toNat (((shl .u64 (IntKind.u64.wrap (rd x25 x27)) x6) / 4294967296) % 4294967296)) x25 x26 (wrap64 (x27+1))) else (none)) else (none)) else (none)) else (none)) else (none)) else (none)) else (none)) else ((cJ.f k x7).bind fun t134=>(some t134))
def fk.f (k:Nat) (l0:List Int) (a1:Int):Option (List Int):=if (l0.length:Int)=0 then (some ([]:List Int)) else (if 0≤(wrap64 ((wrap64 ((l0.length:Int)+(wrap64 (Int.tdiv a1 32))))+1)) then (if (wrap64 ((wrap64 ((l0.length:Int)+(wrap64 (Int.tdiv a1 32))))+1):Int).toNat≤70368744177664 then (fk.l0 k (wrap64 (Int.tdiv a1 32)) (IntKind.u64.wrap (Int.tmod a1 32)) (List.replicate (wrap64 ((wrap64 ((l0.length:Int)+(wrap64 (Int.tdiv a1 32))))+1):Int).toNat 0) l0 (l0.length:Int) 0) else (none)) else (none))
def cw.l0:Nat→List Int→List Int→Int→Int→Int→List Int→Int→Int→Option (Bool×List Int)
 | 0,_,_,_,_,_,_,_,_=>none
 | k+1,x0,x1,x2,x7,x8,x13,x14,x15=>if x15<x14 then (if 0≤x15 then (if x15<(x13.length:Int) then (if x15<(x0.length:Int) then (cw.l0 k (x0.set (x15:Int).toNat ((IntKind.u64.wrap ((IntKind.u64.wrap ((IntKind.u64.wrap (rd x0 x15))-((IntKind.u64.wrap (x7+(IntKind.u64.wrap (x2*(IntKind.u64.wrap (rd x13 x15)))))) % 4294967296)))-x8)) % 4294967296)) x1 x2 ((IntKind.u64.wrap (x7+(IntKind.u64.wrap (x2*(IntKind.u64.wrap (rd x13 x15)))))) / 4294967296) ((IntKind.u64.wrap ((IntKind.u64.wrap ((IntKind.u64.wrap (rd x0 x15))-((IntKind.u64.wrap (x7+(IntKind.u64.wrap (x2*(IntKind.u64.wrap (rd x13 x15)))))) % 4294967296)))-x8)) / 9223372036854775808) x13 x14 (wrap64 (x15+1))) else (none)) else (none)) else (none)) else (if 0≤(x1.length:Int) then (if (x1.length:Int)<(x0.length:Int) then (some ((((IntKind.u64.wrap ((IntKind.u64.wrap ((IntKind.u64.wrap (rd x0 (x1.length:Int)))-x7))-x8)) / 9223372036854775808)==1),(x0.set ((x1.length:Int):Int).toNat ((IntKind.u64.wrap ((IntKind.u64.wrap ((IntKind.u64.wrap (rd x0 (x1.length:Int)))-x7))-x8)) % 4294967296)))) else (none)) else (none))
def cw.f (k:Nat) (l0:List Int) (l1:List Int) (a2:Int):Option (Bool×List Int):=cw.l0 k l0 l1 a2 0 0 l1 (l1.length:Int) 0
def cS.f (k:Nat) (l0:List Int) (b1_ b2_:Int) (l1:List Int) (a2:Int):Option (Bool×List Int):=(cw.f k ((l0.take b2_.toNat).drop b1_.toNat) l1 a2).bind fun p=>some (p.1,l0.take b1_.toNat++p.2++l0.drop b2_.toNat)
def cF.l0:Nat→List Int→List Int→Int→List Int→Int→Int→Option (List Int)
 | 0,_,_,_,_,_,_=>none
 | k+1,x0,x1,x4,x7,x8,x9=>if x9<x8 then (if 0≤x9 then (if x9<(x7.length:Int) then (if x9<(x0.length:Int) then (cF.l0 k (x0.set (x9:Int).toNat ((IntKind.u64.wrap (x4+(IntKind.u64.wrap ((IntKind.u64.wrap (rd x0 x9))+(IntKind.u64.wrap (rd x7 x9)))))) % 4294967296)) x1 ((IntKind.u64.wrap (x4+(IntKind.u64.wrap ((IntKind.u64.wrap (rd x0 x9))+(IntKind.u64.wrap (rd x7 x9)))))) / 4294967296) x7 x8 (wrap64 (x9+1))) else (none)) else (none)) else (none)) else (if 0≤(x1.length:Int) then (if (x1.length:Int)<(x0.length:Int) then (some (x0.set ((x1.length:Int):Int).toNat (((rd x0 (x1.length:Int))+((x4) % 4294967296)) % 4294967296))) else (none)) else (none))
def cF.f (k:Nat) (l0:List Int) (l1:List Int):Option (List Int):=cF.l0 k l0 l1 0 l1 (l1.length:Int) 0
def df.f (k:Nat) (l0:List Int) (b1_ b2_:Int) (l1:List Int):Option (List Int):=(cF.f k ((l0.take b2_.toNat).drop b1_.toNat) l1).bind fun p=>some (l0.take b1_.toNat++p++l0.drop b2_.toNat)
def fe.l0:Nat→List Int→Int→Int→List Int→Int→Int→Option (List Int)
 | 0,_,_,_,_,_,_=>none
 | k+1,x0,x5,x6,x7,x25,x26=>if x26<x25 then (if 0≤(wrap64 (x26+x5)) then (if (wrap64 (x26+x5))<(x0.length:Int) then (if (wrap64 ((wrap64 (x26+x5))+1))<(x0.length:Int) then (if 0≤(wrap64 ((wrap64 (x26+x5))+1)) then (if 0≤x6 then (if 0≤x26 then (if x26<(x7.length:Int) then (fe.l0 k x0 x5 x6 (x7.set (x26:Int).toNat ((shr .u64 (Go.bits .or .u64 (IntKind.u64.wrap (rd x0 (wrap64 (x26+x5)))) (IntKind.u64.wrap ((IntKind.u64.wrap (rd x0 (wrap64 ((wrap64 (x26+x5))+1))))*4294967296))) x6) % 4294967296)) x25 (wrap64 (x26+1))) else (none)) else (none)) else (none)) else (none)) else (if 0≤x6 then (if 0≤x26 then (if x26<(x7.length:Int) then (fe.l0 k x0 x5 x6 (x7.set (x26:Int).toNat ((shr .u64 (IntKind.u64.wrap (rd x0 (wrap64 (x26+x5)))) x6) % 4294967296)) x25 (wrap64 (x26+1))) else (none)) else (none)) else (none))) else (none)) else (none)) else ((cJ.f k x7).bind fun t154=>(some t154))
def fe.f (k:Nat) (l0:List Int) (a1:Int):Option (List Int):=if (wrap64 (Int.tdiv a1 32))≥(l0.length:Int) then (some ([]:List Int)) else (if 0≤(wrap64 ((l0.length:Int)-(wrap64 (Int.tdiv a1 32)))) then (if (wrap64 ((l0.length:Int)-(wrap64 (Int.tdiv a1 32))):Int).toNat≤70368744177664 then ((some (List.replicate (wrap64 ((l0.length:Int)-(wrap64 (Int.tdiv a1 32))):Int).toNat 0:List Int)).bind fun y147=>(fe.l0 k l0 (wrap64 (Int.tdiv a1 32)) (IntKind.u64.wrap (Int.tmod a1 32)) y147 (y147.length:Int) 0)) else (none)) else (none))
mutual
def aI.l0:Nat→List Int→Int→List Int→List Int→Int→Int→Int→Int→Option (List Int×List Int)
 | 0,_,_,_,_,_,_,_,_=>none
 | k+1,x4,x8,x9,x10,x11,x12,x13,x14=>if x14≥0 then (if 0≤(wrap64 (x14+x11)) then (if (wrap64 (x14+x11))<(x10.length:Int) then (if 0≤(wrap64 ((wrap64 (x14+x11))-1)) then (if (wrap64 ((wrap64 (x14+x11))-1))<(x10.length:Int) then (if x12=0 then (none) else (aI.l1 k x4 x8 x9 x10 x11 x12 x13 x14 (IntKind.u64.wrap (Int.tdiv (Go.bits .or .u64 (IntKind.u64.wrap ((IntKind.u64.wrap (rd x10 (wrap64 (x14+x11))))*4294967296)) (IntKind.u64.wrap (rd x10 (wrap64 ((wrap64 (x14+x11))-1))))) x12)) (Int.tmod (Go.bits .or .u64 (IntKind.u64.wrap ((IntKind.u64.wrap (rd x10 (wrap64 (x14+x11))))*4294967296)) (IntKind.u64.wrap (rd x10 (wrap64 ((wrap64 (x14+x11))-1))))) x12))) else (none)) else (none)) else (none)) else (none)) else ((cJ.f k x4).bind fun t186=>((cJ.f k x10).bind fun t189=>((fe.f k t189 x8).bind fun t192=>(some (t186,t192)))))
def aI.j3:Nat→List Int→Int→List Int→List Int→Int→Int→Int→Int→Int→Option (List Int×List Int)
 | 0,_,_,_,_,_,_,_,_,_=>none
 | k+1,x4,x8,x9,x10,x11,x12,x13,x14,x16=>if 0≤x14 then (if x14<(wrap64 ((wrap64 (x14+x11))+1)) then (if (wrap64 ((wrap64 (x14+x11))+1))≤(x10.length:Int) then ((cS.f k x10 x14 (wrap64 ((wrap64 (x14+x11))+1)) x9 x16).bind fun bt199=>(if bt199.1=true then ((df.f k bt199.2 x14 (wrap64 ((wrap64 (x14+x11))+1)) x9).bind fun t202=>(if x14<(x4.length:Int) then (aI.l0 k (x4.set (x14:Int).toNat ((IntKind.u64.wrap (x16-1)) % 4294967296)) x8 x9 t202 x11 x12 x13 (wrap64 (x14-1))) else (none))) else (if x14<(x4.length:Int) then (aI.l0 k (x4.set (x14:Int).toNat ((x16) % 4294967296)) x8 x9 bt199.2 x11 x12 x13 (wrap64 (x14-1))) else (none)))) else (none)) else (none)) else (none)
def aI.l1:Nat→List Int→Int→List Int→List Int→Int→Int→Int→Int→Int→Int→Option (List Int×List Int)
 | 0,_,_,_,_,_,_,_,_,_,_=>none
 | k+1,x4,x8,x9,x10,x11,x12,x13,x14,x16,x17=>if x16≥4294967296 then (aI.j2 k x4 x8 x9 x10 x11 x12 x13 x14 x16 x17 true) else (if 0≤(wrap64 ((wrap64 (x14+x11))-2)) then (if (wrap64 ((wrap64 (x14+x11))-2))<(x10.length:Int) then (aI.j2 k x4 x8 x9 x10 x11 x12 x13 x14 x16 x17 (decide ((IntKind.u64.wrap (x16*x13))>(Go.bits .or .u64 (IntKind.u64.wrap (x17*4294967296)) (IntKind.u64.wrap (rd x10 (wrap64 ((wrap64 (x14+x11))-2)))))))) else (none)) else (none))
def aI.j2:Nat→List Int→Int→List Int→List Int→Int→Int→Int→Int→Int→Int→Bool→Option (List Int×List Int)
 | 0,_,_,_,_,_,_,_,_,_,_,_=>none
 | k+1,x4,x8,x9,x10,x11,x12,x13,x14,x16,x17,x127=>if x127=true then (if (IntKind.u64.wrap (x17+x12))≥4294967296 then (aI.j3 k x4 x8 x9 x10 x11 x12 x13 x14 (IntKind.u64.wrap (x16-1))) else (aI.l1 k x4 x8 x9 x10 x11 x12 x13 x14 (IntKind.u64.wrap (x16-1)) (IntKind.u64.wrap (x17+x12)))) else (aI.j3 k x4 x8 x9 x10 x11 x12 x13 x14 x16)
end
def aI.f (k:Nat) (l0:List Int) (l1:List Int):Option (List Int×List Int):=(cX.f k l0 l1).bind fun t157=>(if t157<0 then (if ([]:List Int).length+l0.length<35184372088832 then (some (([]:List Int),(([]:List Int)++l0))) else (none)) else (if (l1.length:Int)=1 then (if 0<(l1.length:Int) then ((di.f k l0 (rd l1 0)).bind fun bt162=>((dE.f k (IntKind.u64.wrap (bt162.2))).bind fun t166=>(some (bt162.1,t166)))) else (none)) else (if 0≤(wrap64 ((l1.length:Int)-1)) then (if (wrap64 ((l1.length:Int)-1))<(l1.length:Int) then ((cQ.f (rd l1 (wrap64 ((l1.length:Int)-1)))).bind fun t170=>((fk.f k l1 t170).bind fun t171=>(if 0≤(wrap64 ((l0.length:Int)+1)) then (if (wrap64 ((l0.length:Int)+1):Int).toNat≤70368744177664 then ((some (List.replicate (wrap64 ((l0.length:Int)+1):Int).toNat 0:List Int)).bind fun y174=>((fk.f k l0 t170).bind fun t177=>(if 0≤(wrap64 ((y174.length:Int)-(t171.length:Int))) then (if (wrap64 ((y174.length:Int)-(t171.length:Int)):Int).toNat≤70368744177664 then (if 0≤(wrap64 ((t171.length:Int)-1)) then (if (wrap64 ((t171.length:Int)-1))<(t171.length:Int) then (if 0≤(wrap64 ((t171.length:Int)-2)) then (if (wrap64 ((t171.length:Int)-2))<(t171.length:Int) then (aI.l0 k (List.replicate (wrap64 ((y174.length:Int)-(t171.length:Int)):Int).toNat 0) t170 t171 (cpy y174 t177) (t171.length:Int) (IntKind.u64.wrap (rd t171 (wrap64 ((t171.length:Int)-1)))) (IntKind.u64.wrap (rd t171 (wrap64 ((t171.length:Int)-2)))) (wrap64 ((wrap64 ((y174.length:Int)-(t171.length:Int)))-1))) else (none)) else (none)) else (none)) else (none)) else (none)) else (none)))) else (none)) else (none)))) else (none)) else (none))))
def fj.f (l0:List Int):Option (Int×Bool):=if (l0.length:Int)=0 then (some (0,true)) else (if (l0.length:Int)=1 then (if 0<(l0.length:Int) then (some (IntKind.u64.wrap (rd l0 0),true)) else (none)) else (if (l0.length:Int)=2 then (if 1<(l0.length:Int) then (if 0<(l0.length:Int) then (some (Go.bits .or .u64 (IntKind.u64.wrap ((IntKind.u64.wrap (rd l0 1))*4294967296)) (IntKind.u64.wrap (rd l0 0)),true)) else (none)) else (none)) else (some (0,false))))
def gV.f (l0:List Int):Option (Int):=if (l0.length:Int)=0 then (some 0) else (if 0≤(wrap64 ((l0.length:Int)-1)) then (if (wrap64 ((l0.length:Int)-1))<(l0.length:Int) then ((cQ.f (rd l0 (wrap64 ((l0.length:Int)-1)))).bind fun t209=>(some (wrap64 ((wrap64 (32*(l0.length:Int)))-t209)))) else (none)) else (none))
mutual
def bC.j0:Nat→List Int→List Int→Bool→Option (List Int)
 | 0,_,_,_=>none
 | k+1,x0,x1,x18=>if x18=true then (some ([]:List Int)) else (if 0≤(wrap64 ((x0.length:Int)+(x1.length:Int))) then (if (wrap64 ((x0.length:Int)+(x1.length:Int)):Int).toNat≤70368744177664 then (bC.l0 k x1 (List.replicate (wrap64 ((x0.length:Int)+(x1.length:Int)):Int).toNat 0) x0 (x0.length:Int) 0) else (none)) else (none))
def bC.l0:Nat→List Int→List Int→List Int→Int→Int→Option (List Int)
 | 0,_,_,_,_,_=>none
 | k+1,x1,x5,x25,x26,x27=>if x27<x26 then (if 0≤x27 then (if x27<(x25.length:Int) then (bC.l1 k x1 x5 x27 (rd x25 x27) 0 x25 x26 x27 x1 (x1.length:Int) 0) else (none)) else (none)) else ((cJ.f k x5).bind fun t213=>(some t213))
def bC.l1:Nat→List Int→List Int→Int→Int→Int→List Int→Int→Int→List Int→Int→Int→Option (List Int)
 | 0,_,_,_,_,_,_,_,_,_,_,_=>none
 | k+1,x1,x5,x6,x7,x8,x25,x26,x27,x32,x33,x34=>if x34<x33 then (if 0≤x34 then (if x34<(x32.length:Int) then (if 0≤(wrap64 (x6+x34)) then (if (wrap64 (x6+x34))<(x5.length:Int) then (bC.l1 k x1 (x5.set ((wrap64 (x6+x34)):Int).toNat ((IntKind.u64.wrap (x8+(IntKind.u64.wrap ((IntKind.u64.wrap ((IntKind.u64.wrap (x7))*(IntKind.u64.wrap (rd x32 x34))))+(IntKind.u64.wrap (rd x5 (wrap64 (x6+x34)))))))) % 4294967296)) x6 x7 ((IntKind.u64.wrap (x8+(IntKind.u64.wrap ((IntKind.u64.wrap ((IntKind.u64.wrap (x7))*(IntKind.u64.wrap (rd x32 x34))))+(IntKind.u64.wrap (rd x5 (wrap64 (x6+x34)))))))) / 4294967296) x25 x26 x27 x32 x33 (wrap64 (x34+1))) else (none)) else (none)) else (none)) else (none)) else (if 0≤(wrap64 (x6+(x1.length:Int))) then (if (wrap64 (x6+(x1.length:Int)))<(x5.length:Int) then (bC.l0 k x1 (x5.set ((wrap64 (x6+(x1.length:Int))):Int).toNat ((x8) % 4294967296)) x25 x26 (wrap64 (x27+1))) else (none)) else (none))
end
def bC.f (k:Nat) (l0:List Int) (l1:List Int):Option (List Int):=if (l0.length:Int)=0 then (bC.j0 k l0 l1 true) else (bC.j0 k l0 l1 ((l1.length:Int)==0))
def dI.l0:Nat→List Int→List Int→Int→List Int→Int→Int→Option (List Int)
 | 0,_,_,_,_,_,_=>none
 | k+1,x1,x5,x6,x13,x14,x15=>if x15<x14 then (if 0≤x15 then (if x15<(x13.length:Int) then (if x15<(x1.length:Int) then (if x15<(x5.length:Int) then (dI.l0 k x1 (x5.set (x15:Int).toNat ((IntKind.u64.wrap ((IntKind.u64.wrap ((IntKind.u64.wrap (rd x13 x15))-x6))-(IntKind.u64.wrap (rd x1 x15)))) % 4294967296)) ((IntKind.u64.wrap ((IntKind.u64.wrap ((IntKind.u64.wrap (rd x13 x15))-x6))-(IntKind.u64.wrap (rd x1 x15)))) / 9223372036854775808) x13 x14 (wrap64 (x15+1))) else (none)) else (if x15<(x5.length:Int) then (dI.l0 k x1 (x5.set (x15:Int).toNat ((IntKind.u64.wrap ((IntKind.u64.wrap (rd x13 x15))-x6)) % 4294967296)) ((IntKind.u64.wrap ((IntKind.u64.wrap (rd x13 x15))-x6)) / 9223372036854775808) x13 x14 (wrap64 (x15+1))) else (none))) else (none)) else (none)) else ((cJ.f k x5).bind fun t228=>(some t228))
def dI.f (k:Nat) (l0:List Int) (l1:List Int):Option (List Int):=if 0≤(l0.length:Int) then (if ((l0.length:Int):Int).toNat≤70368744177664 then (dI.l0 k l1 (List.replicate ((l0.length:Int):Int).toNat 0) 0 l0 (l0.length:Int) 0) else (none)) else (none)
def cG.j0:Nat→List Int→List Int→Int→Int→Bool→Option (List Int)
 | 0,_,_,_,_,_=>none
 | k+1,x0,x1,x2,x3,x14=>if x14=true then ((dE.f k (IntKind.u64.wrap (x3))).bind fun t231=>((bC.f k x1 t231).bind fun t234=>((dE.f k (IntKind.u64.wrap (wrap64 (-x2)))).bind fun t237=>((bC.f k x0 t237).bind fun t240=>((dI.f k t234 t240).bind fun t243=>(some t243)))))) else ((dE.f k (IntKind.u64.wrap (x2))).bind fun t246=>((bC.f k x0 t246).bind fun t249=>((dE.f k (IntKind.u64.wrap (wrap64 (-x3)))).bind fun t252=>((bC.f k x1 t252).bind fun t255=>((dI.f k t249 t255).bind fun t258=>(some t258))))))
def cG.f (k:Nat) (l0:List Int) (l1:List Int) (a2:Int) (a3:Int):Option (List Int):=if a2<0 then (cG.j0 k l0 l1 a2 a3 true) else (cG.j0 k l0 l1 a2 a3 (decide (a3>0)))
mutual
def bk.j2:Nat→List Int→List Int→Int→Int→Int→Int→Option (List Int×List Int×Bool)
 | 0,_,_,_,_,_,_=>none
 | k+1,x0,x1,x12,x13,x14,x15=>if x13=0 then (some (([]:List Int),([]:List Int),false)) else ((cG.f k x0 x1 x12 x13).bind fun t273=>((cG.f k x0 x1 x14 x15).bind fun t276=>(some (t273,t276,true))))
def bk.l0:Nat→List Int→List Int→Int→Int→Int→Int→Int→Int→Option (List Int×List Int×Bool)
 | 0,_,_,_,_,_,_,_,_=>none
 | k+1,x0,x1,x12,x13,x14,x15,x16,x17=>if (wrap64 (x17+x14))=0 then (bk.j1 k x0 x1 x12 x13 x14 x15 x16 x17 false) else (bk.j1 k x0 x1 x12 x13 x14 x15 x16 x17 ((wrap64 (x17+x15)) != 0))
def bk.j1:Nat→List Int→List Int→Int→Int→Int→Int→Int→Int→Bool→Option (List Int×List Int×Bool)
 | 0,_,_,_,_,_,_,_,_,_=>none
 | k+1,x0,x1,x12,x13,x14,x15,x16,x17,x55=>if x55=true then (if (wrap64 (x17+x14))=0 then (none) else (if (wrap64 (x17+x15))=0 then (none) else (if (wrap64 (Int.tdiv (wrap64 (x16+x12)) (wrap64 (x17+x14))))=(wrap64 (Int.tdiv (wrap64 (x16+x13)) (wrap64 (x17+x15)))) then (bk.l0 k x0 x1 x14 x15 (wrap64 (x12-(wrap64 ((wrap64 (Int.tdiv (wrap64 (x16+x12)) (wrap64 (x17+x14))))*x14)))) (wrap64 (x13-(wrap64 ((wrap64 (Int.tdiv (wrap64 (x16+x12)) (wrap64 (x17+x14))))*x15)))) x17 (wrap64 (x16-(wrap64 ((wrap64 (Int.tdiv (wrap64 (x16+x12)) (wrap64 (x17+x14))))*x17))))) else (bk.j2 k x0 x1 x12 x13 x14 x15)))) else (bk.j2 k x0 x1 x12 x13 x14 x15)
end
def bk.f (k:Nat) (l0:List Int) (l1:List Int):Option (List Int×List Int×Bool):=(gV.f l0).bind fun t261=>((gV.f l1).bind fun t262=>(if t262<(wrap64 (t261-20)) then (some (([]:List Int),([]:List Int),false)) else ((fe.f k l0 (wrap64 (t261-31))).bind fun t263=>((fj.f t263).bind fun bt266=>((fe.f k l1 (wrap64 (t261-31))).bind fun t268=>((fj.f t268).bind fun bt271=>(bk.l0 k l0 l1 1 0 0 1 (wrap64 (bt266.1)) (wrap64 (bt271.1)))))))))
mutual
def cq.j0:Nat→List Int→List Int→Option (List Int)
 | 0,_,_=>none
 | k+1,x0,x1=>cq.l0 k x0 x1
def cq.l0:Nat→List Int→List Int→Option (List Int)
 | 0,_,_=>none
 | k+1,x0,x1=>if (x1.length:Int)>2 then ((bk.f k x0 x1).bind fun bt280=>(if bt280.2.2=true then (cq.l0 k bt280.1 bt280.2.1) else ((aI.f k x0 x1).bind fun bt287=>(cq.l0 k x1 bt287.2)))) else (if (x1.length:Int)=0 then (if ([]:List Int).length+x0.length<35184372088832 then (some (([]:List Int)++x0)) else (none)) else ((aI.f k x0 x1).bind fun bt296=>((fj.f x1).bind fun bt302=>((fj.f bt296.2).bind fun bt304=>(cq.l1 k bt302.1 bt304.1)))))
def cq.l1:Nat→Int→Int→Option (List Int)
 | 0,_,_=>none
 | k+1,x12,x14=>if x14=0 then ((dE.f k x12).bind fun t306=>(some t306)) else (cq.l1 k x14 (Int.tmod x12 x14))
end
def cq.f (k:Nat) (l0:List Int) (l1:List Int):Option (List Int):=(cX.f k l0 l1).bind fun t279=>(if t279<0 then (cq.j0 k l1 l0) else (cq.j0 k l0 l1))
def dJ.j0:Nat→Bool→Bool→List Int→List Int→Option (Bool)
 | 0,_,_,_,_=>none
 | k+1,x23,x310000,x310001,x310002=>if x23=true then (some false) else (if (x310001.length:Int)=0 then (if x310000=true then (some false) else (if (x310002.length:Int)=1 then (if 0<(x310002.length:Int) then (some ((rd x310002 0)==1)) else (none)) else (some false))) else (if (x310002.length:Int)=1 then (if 0<(x310002.length:Int) then (if (rd x310002 0)=1 then (some true) else ((cq.f k x310001 x310002).bind fun t314=>(if (t314.length:Int)=1 then (if 0<(t314.length:Int) then (some ((rd t314 0)==1)) else (none)) else (some false)))) else (none)) else ((cq.f k x310001 x310002).bind fun t318=>(if (t318.length:Int)=1 then (if 0<(t318.length:Int) then (some ((rd t318 0)==1)) else (none)) else (some false)))))
def dJ.f (k:Nat) (a0_0:Bool) (l0_1:List Int) (l0_2:List Int) (a1:Int):Option (Bool):=(iW.f l0_1 a1).bind fun t310=>(if t310=true then ((iW.f l0_2 a1).bind fun t311=>(if t311=true then (dJ.j0 k ((l0_2.length:Int)==0) a0_0 l0_1 l0_2) else (dJ.j0 k true a0_0 l0_1 l0_2))) else (dJ.j0 k true a0_0 l0_1 l0_2))
mutual
def aR.j0:Nat→Int→List (S32)→Bool→Option (Int)
 | 0,_,_,_=>none
 | k+1,x0,x1,x19=>if x19=true then (some 3) else (aR.l0 k x0 x1 (x1.length:Int) 0)
def aR.l0:Nat→Int→List (S32)→Int→Int→Option (Int)
 | 0,_,_,_,_=>none
 | k+1,x0,x20,x21,x22=>if x22<x21 then (if 0≤x22 then (if x22<(x20.length:Int) then (if (((bQ x20 x22).f0).length:Int)=x0 then (if ((bQ x20 x22).f1)<0 then (aR.j2 k x0 x20 x21 x22 true ((bQ x20 x22).f0) ((bQ x20 x22).f1) ((bQ x20 x22).f2.f0) ((bQ x20 x22).f2.f1) ((bQ x20 x22).f2.f2)) else (if ((bQ x20 x22).f1)>2 then (aR.j2 k x0 x20 x21 x22 true ((bQ x20 x22).f0) ((bQ x20 x22).f1) ((bQ x20 x22).f2.f0) ((bQ x20 x22).f2.f1) ((bQ x20 x22).f2.f2)) else ((dJ.f k ((bQ x20 x22).f2.f0) ((bQ x20 x22).f2.f1) ((bQ x20 x22).f2.f2) 20).bind fun t324=>(aR.j2 k x0 x20 x21 x22 (!t324) ((bQ x20 x22).f0) ((bQ x20 x22).f1) ((bQ x20 x22).f2.f0) ((bQ x20 x22).f2.f1) ((bQ x20 x22).f2.f2))))) else (aR.j2 k x0 x20 x21 x22 true ((bQ x20 x22).f0) ((bQ x20 x22).f1) ((bQ x20 x22).f2.f0) ((bQ x20 x22).f2.f1) ((bQ x20 x22).f2.f2))) else (none)) else (none)) else (some 0)
def aR.j2:Nat→Int→List (S32)→Int→Int→Bool→List (S30)→Int→Bool→List Int→List Int→Option (Int)
 | 0,_,_,_,_,_,_,_,_,_,_=>none
 | k+1,x0,x20,x21,x22,x46,x324000,x324001,x324002,x324003,x324004=>if x46=true then (some 3) else (aR.l1 k x0 x20 x21 x22 x324000 (x324000.length:Int) 0)
def aR.l1:Nat→Int→List (S32)→Int→Int→List (S30)→Int→Int→Option (Int)
 | 0,_,_,_,_,_,_,_=>none
 | k+1,x0,x20,x21,x22,x48,x49,x50=>if x50<x49 then (if 0≤x50 then (if x50<(x48.length:Int) then ((dJ.f k ((cR x48 x50).f0) ((cR x48 x50).f1) ((cR x48 x50).f2) 20).bind fun t327=>(if t327=true then (aR.l1 k x0 x20 x21 x22 x48 x49 (wrap64 (x50+1))) else (some 3))) else (none)) else (none)) else (aR.l0 k x0 x20 x21 (wrap64 (x22+1)))
end
def cM.l0:Nat→List (S30)→Int→List (S30)→Int→Int→Option (Bool)
 | 0,_,_,_,_,_=>none
 | k+1,x0,x1,x7,x8,x9=>if x9<x8 then (if 0≤x9 then (if x9<(x7.length:Int) then ((dJ.f k ((cR x7 x9).f0) ((cR x7 x9).f1) ((cR x7 x9).f2) 200).bind fun t330=>(if t330=true then (cM.l0 k x0 x1 x7 x8 (wrap64 (x9+1))) else (some false))) else (none)) else (none)) else (some ((x0.length:Int)==x1))
def dD.f (a0_0:Bool) (l0_1:List Int) (l0_2:List Int):Option (Int):=if (l0_1.length:Int)=0 then (some 0) else (if a0_0=true then (some (-1)) else (some 1))
def jh.f (k:Nat) (a0_0:Bool) (l0_1:List Int) (l0_2:List Int) (a1_0:Bool) (l1_1:List Int) (l1_2:List Int):Option (Int):=(dD.f a0_0 l0_1 l0_2).bind fun t334=>((dD.f a1_0 l1_1 l1_2).bind fun t335=>(if t334=t335 then ((bC.f k l0_1 l1_2).bind fun t336=>((bC.f k l1_1 l0_2).bind fun t339=>((cX.f k t336 t339).bind fun t342=>(if a0_0=true then (some (wrap64 (-t342))) else (some t342))))) else (if t334<t335 then (some (-1)) else (some 1))))
def dL.f (k:Nat) (a0_0:Bool) (l0_1:List Int) (l0_2:List Int) (a1:Int) (a2_0:Bool) (l2_1:List Int) (l2_2:List Int):Option (Bool):=(jh.f k a0_0 l0_1 l0_2 a2_0 l2_1 l2_2).bind fun t345=>(if t345=0 then (if a1<2 then (some true) else (if t345<0 then (some (decide (a1>0))) else (some false))) else (if t345<0 then (some (decide (a1>0))) else (some false)))
def fi.f:Option (Bool×List Int×List Int):=some (false,([]:List Int),(([1]:List Int)))
def dk.j0:Nat→Bool→List Int→List Int→List Int→Bool→Option (Bool×List Int×List Int)
 | 0,_,_,_,_,_=>none
 | k+1,x0,x1,x2,x7,x23=>if x23=true then ((aI.f k x1 x7).bind fun bt362=>((aI.f k x2 x7).bind fun bt368=>(if ([]:List Int).length+bt362.1.length<35184372088832 then (if ([]:List Int).length+bt368.1.length<35184372088832 then (some (x0,(([]:List Int)++bt362.1),(([]:List Int)++bt368.1))) else (none)) else (none)))) else (if ([]:List Int).length+x1.length<35184372088832 then (if ([]:List Int).length+x2.length<35184372088832 then (some (x0,(([]:List Int)++x1),(([]:List Int)++x2))) else (none)) else (none))
def dk.f (k:Nat) (a0:Bool) (l1:List Int) (l2:List Int):Option (Bool×List Int×List Int):=if (l1.length:Int)=0 then ((fi.f).bind fun bt351=>(some (bt351.1,bt351.2.1,bt351.2.2))) else ((cq.f k l1 l2).bind fun t358=>(if (t358.length:Int)=1 then (if 0<(t358.length:Int) then (dk.j0 k a0 l1 l2 t358 ((rd t358 0) != 1)) else (none)) else (dk.j0 k a0 l1 l2 t358 true)))
mutual
def dg.j0:Nat→List Int→List Int→Option (List Int)
 | 0,_,_=>none
 | k+1,x0,x1=>if 0≤(wrap64 ((x0.length:Int)+1)) then (if (wrap64 ((x0.length:Int)+1):Int).toNat≤70368744177664 then (dg.l0 k x0 x1 (List.replicate (wrap64 ((x0.length:Int)+1):Int).toNat 0) 0 x0 (x0.length:Int) 0) else (none)) else (none)
def dg.l0:Nat→List Int→List Int→List Int→Int→List Int→Int→Int→Option (List Int)
 | 0,_,_,_,_,_,_,_=>none
 | k+1,x0,x1,x5,x6,x20,x21,x22=>if x22<x21 then (if 0≤x22 then (if x22<(x20.length:Int) then (if x22<(x1.length:Int) then (if x22<(x5.length:Int) then (dg.l0 k x0 x1 (x5.set (x22:Int).toNat ((IntKind.u64.wrap ((IntKind.u64.wrap (x6+(IntKind.u64.wrap (rd x20 x22))))+(IntKind.u64.wrap (rd x1 x22)))) % 4294967296)) ((IntKind.u64.wrap ((IntKind.u64.wrap (x6+(IntKind.u64.wrap (rd x20 x22))))+(IntKind.u64.wrap (rd x1 x22)))) / 4294967296) x20 x21 (wrap64 (x22+1))) else (none)) else (if x22<(x5.length:Int) then (dg.l0 k x0 x1 (x5.set (x22:Int).toNat ((IntKind.u64.wrap (x6+(IntKind.u64.wrap (rd x20 x22)))) % 4294967296)) ((IntKind.u64.wrap (x6+(IntKind.u64.wrap (rd x20 x22)))) / 4294967296) x20 x21 (wrap64 (x22+1))) else (none))) else (none)) else (none)) else (if 0≤(x0.length:Int) then (if (x0.length:Int)<(x5.length:Int) then ((cJ.f k (x5.set ((x0.length:Int):Int).toNat ((x6) % 4294967296))).bind fun t394=>(some t394)) else (none)) else (none))
end
def dg.f (k:Nat) (l0:List Int) (l1:List Int):Option (List Int):=if (l0.length:Int)<(l1.length:Int) then (dg.j0 k l1 l0) else (dg.j0 k l0 l1)
def eF.j0:Nat→List Int→List Int→List Int→Bool→List Int→List Int→Bool→List Int→List Int→Option (Bool×List Int×List Int)
 | 0,_,_,_,_,_,_,_,_,_=>none
 | k+1,x5,x6,x7,x398000,x398001,x398002,x399000,x399001,x399002=>if (x398000==x399000)=true then ((dg.f k x5 x6).bind fun t410=>((dk.f k x398000 t410 x7).bind fun bt413=>(some (bt413.1,bt413.2.1,bt413.2.2)))) else ((cX.f k x5 x6).bind fun t420=>(if t420≥0 then ((dI.f k x5 x6).bind fun t421=>((dk.f k x398000 t421 x7).bind fun bt424=>(some (bt424.1,bt424.2.1,bt424.2.2)))) else ((dI.f k x6 x5).bind fun t431=>((dk.f k x399000 t431 x7).bind fun bt434=>(some (bt434.1,bt434.2.1,bt434.2.2))))))
def eF.f (k:Nat) (a0_0:Bool) (l0_1:List Int) (l0_2:List Int) (a1_0:Bool) (l1_1:List Int) (l1_2:List Int):Option (Bool×List Int×List Int):=(cX.f k l0_2 l1_2).bind fun t400=>(if t400=0 then (eF.j0 k l0_1 l1_1 l0_2 a0_0 l0_1 l0_2 a1_0 l1_1 l1_2) else ((bC.f k l0_1 l1_2).bind fun t401=>((bC.f k l1_1 l0_2).bind fun t404=>((bC.f k l0_2 l1_2).bind fun t407=>(eF.j0 k t401 t404 t407 a0_0 l0_1 l0_2 a1_0 l1_1 l1_2)))))
def gA.f (k:Nat) (a0_0:Bool) (l0_1:List Int) (l0_2:List Int) (a1_0:Bool) (l1_1:List Int) (l1_2:List Int):Option (Bool×List Int×List Int):=(bC.f k l0_1 l1_1).bind fun t444=>((bC.f k l0_2 l1_2).bind fun t447=>((dk.f k (a0_0 != a1_0) t444 t447).bind fun bt450=>(some (bt450.1,bt450.2.1,bt450.2.2))))
def dB.l0:Nat→List (S30)→List (S30)→Int→Int→Bool→List Int→List Int→Option (Bool×List Int×List Int)
 | 0,_,_,_,_,_,_,_=>none
 | k+1,x1,x9,x10,x11,x466000,x466001,x466002=>if x11<x10 then (if 0≤x11 then (if x11<(x9.length:Int) then (if x11<(x1.length:Int) then ((gA.f k ((cR x9 x11).f0) ((cR x9 x11).f1) ((cR x9 x11).f2) ((cR x1 x11).f0) ((cR x1 x11).f1) ((cR x1 x11).f2)).bind fun bt469=>((eF.f k x466000 x466001 x466002 bt469.1 bt469.2.1 bt469.2.2).bind fun bt476=>(dB.l0 k x1 x9 x10 (wrap64 (x11+1)) bt476.1 bt476.2.1 bt476.2.2))) else (none)) else (none)) else (none)) else (some (x466000,x466001,x466002))
def dB.f (k:Nat) (l0:List (S30)) (l1:List (S30)):Option (Bool×List Int×List Int):=(fi.f).bind fun bt458=>(dB.l0 k l1 l0 (l0.length:Int) 0 bt458.1 bt458.2.1 bt458.2.2)
def cI.l0:Nat→List (S30)→List (S32)→Int→Int→Option (Bool×Int)
 | 0,_,_,_,_=>none
 | k+1,x2,x21,x22,x23=>if x23<x22 then (if 0≤x23 then (if x23<(x21.length:Int) then ((dB.f k ((bQ x21 x23).f0) x2).bind fun bt487=>((dL.f k bt487.1 bt487.2.1 bt487.2.2 ((bQ x21 x23).f1) ((bQ x21 x23).f2.f0) ((bQ x21 x23).f2.f1) ((bQ x21 x23).f2.f2)).bind fun t494=>(if t494=true then (cI.l0 k x2 x21 x22 (wrap64 (x23+1))) else (some (false,0))))) else (none)) else (none)) else (some (true,0))
def aS.l0:Nat→List Int→Int→Option (List Int)
 | 0,_,_=>none
 | k+1,x0,x3=>if x3>0 then (if 0≤(wrap64 (x3-1)) then (if (wrap64 (x3-1))<(x0.length:Int) then (if (rd x0 (wrap64 (x3-1)))=0 then (aS.l0 k x0 (wrap64 (x3-1))) else (if 0≤x3 then (if x3≤(x0.length:Int) then (some (x0.take (x3:Int).toNat)) else (none)) else (none))) else (none)) else (none)) else (if 0≤x3 then (if x3≤(x0.length:Int) then (some (x0.take (x3:Int).toNat)) else (none)) else (none))
def aS.f (k:Nat) (l0:List Int):Option (List Int):=aS.l0 k l0 (l0.length:Int)
def ba.l0:Nat→List Int→Int→List Int→Int→Int→Option (List Int×Int)
 | 0,_,_,_,_,_=>none
 | k+1,x0,x1,x6,x7,x8=>if x8≥0 then (if 0≤x8 then (if x8<(x0.length:Int) then (if x1=0 then (none) else (if x8<(x6.length:Int) then (ba.l0 k x0 x1 (x6.set (x8:Int).toNat (wrap64 (Int.tdiv (wrap64 ((wrap64 (x7*10000))+(rd x0 x8))) x1))) (Int.tmod (wrap64 ((wrap64 (x7*10000))+(rd x0 x8))) x1) (wrap64 (x8-1))) else (none))) else (none)) else (none)) else ((aS.f k x6).bind fun t507=>(some (t507,x7)))
def ba.f (k:Nat) (l0:List Int) (a1:Int):Option (List Int×Int):=if 0≤(l0.length:Int) then (if ((l0.length:Int):Int).toNat≤35184372088832 then (ba.l0 k l0 a1 (List.replicate ((l0.length:Int):Int).toNat 0) 0 (wrap64 ((l0.length:Int)-1))) else (none)) else (none)
mutual
def aF.l0:Nat→List Int→List Int→Option (List Int)
 | 0,_,_=>none
 | k+1,x0,x3=>if (x0.length:Int)>0 then ((ba.f k x0 65536).bind fun bt510=>(if x3.length<17592186044416 then (aF.l0 k bt510.1 (x3++[bt510.2])) else (none))) else (aF.l1 k x3 ([]:List Int) 0)
def aF.l1:Nat→List Int→List Int→Int→Option (List Int)
 | 0,_,_,_=>none
 | k+1,x3,x6,x7=>if x7<(x3.length:Int) then (if 0≤x7 then (if (wrap64 (x7+1))<(x3.length:Int) then (if 0≤(wrap64 (x7+1)) then (if x6.length<35184372088832 then (aF.l1 k x3 (x6++[(((rd x3 x7) % 4294967296)+((((rd x3 (wrap64 (x7+1))) % 4294967296)*65536) % 4294967296)) % 4294967296]) (wrap64 (x7+2))) else (none)) else (none)) else (if x6.length<35184372088832 then (aF.l1 k x3 (x6++[(rd x3 x7) % 4294967296]) (wrap64 (x7+2))) else (none))) else (none)) else (some x6)
end
def aF.f (k:Nat) (l0:List Int):Option (List Int):=aF.l0 k l0 ([]:List Int)
def aH.l0:Nat→Int→List Int→Option (List Int)
 | 0,_,_=>none
 | k+1,x0,x3=>if x0>0 then (if x3.length<17592186044416 then (aH.l0 k (wrap64 (Int.tdiv x0 10000)) (x3++[Int.tmod x0 10000])) else (none)) else (some x3)
def aH.f (k:Nat) (a0:Int):Option (List Int):=aH.l0 k a0 (([]:List Int))
def cy.f (l0_0:List (S30)) (a0_1:Int) (a0_2:Int):Option (Bool×List Int×List Int):=if 0≤a0_1 then (if a0_1<(l0_0.length:Int) then (some ((cR l0_0 a0_1).f0,(cR l0_0 a0_1).f1,(cR l0_0 a0_1).f2)) else (none)) else (none)
def bP.l0:Nat→List (S30)→Int→Int→Option (Bool)
 | 0,_,_,_=>none
 | k+1,x9,x10,x11=>if x11<x10 then (if 0≤x11 then (if x11<(x9.length:Int) then ((dD.f ((cR x9 x11).f0) ((cR x9 x11).f1) ((cR x9 x11).f2)).bind fun t578=>(if t578=0 then (bP.l0 k x9 x10 (wrap64 (x11+1))) else (some false))) else (none)) else (none)) else (some true)
def bP.f (k:Nat) (l0_0:List (S30)) (a0_1:Int) (a0_2:Int):Option (Bool):=if 0≤a0_1 then (if a0_1≤(l0_0.length:Int) then ((some (l0_0.take (a0_1:Int).toNat:List (S30))).bind fun y572=>(bP.l0 k y572 (y572.length:Int) 0)) else (none)) else (none)
def cU.f (k:Nat) (l0_0:List (S30)) (a0_1:Int) (a0_2:Int):Option (Bool):=(bP.f k l0_0 a0_1 a0_2).bind fun t580=>(if t580=true then ((fi.f).bind fun bt581=>((cy.f l0_0 a0_1 a0_2).bind fun bt588=>((dL.f k bt581.1 bt581.2.1 bt581.2.2 a0_2 bt588.1 bt588.2.1 bt588.2.2).bind fun t595=>(some (!t595))))) else (some false))
def jJ.f (k:Nat) (a0_0:Bool) (l0_1:List Int) (l0_2:List Int) (a1_0:Bool) (l1_1:List Int) (l1_2:List Int):Option (Bool):=if (a0_0==a1_0)=true then ((cX.f k l0_1 l1_1).bind fun t598=>(if t598=0 then ((cX.f k l0_2 l1_2).bind fun t599=>(some (t599==0))) else (some false))) else (some false)
mutual
def cA.j0:Nat→Bool→List (S30)→Int→Int→List (S30)→Int→Int→Option (Bool)
 | 0,_,_,_,_,_,_,_=>none
 | k+1,x13,x601000,x601001,x601002,x602000,x602001,x602002=>if x13=true then (some false) else (cA.l0 k x601001 0 x601000 x601001 x601002 x602000 x602001 x602002)
def cA.l0:Nat→Int→Int→List (S30)→Int→Int→List (S30)→Int→Int→Option (Bool)
 | 0,_,_,_,_,_,_,_,_=>none
 | k+1,x15,x16,x601000,x601001,x601002,x602000,x602001,x602002=>if x16<x15 then (if 0≤x16 then (if x16<(x601000.length:Int) then (if x16<(x602000.length:Int) then ((jJ.f k ((cR x601000 x16).f0) ((cR x601000 x16).f1) ((cR x601000 x16).f2) ((cR x602000 x16).f0) ((cR x602000 x16).f1) ((cR x602000 x16).f2)).bind fun t604=>(if t604=true then (cA.l0 k x15 (wrap64 (x16+1)) x601000 x601001 x601002 x602000 x602001 x602002) else (some false))) else (none)) else (none)) else (none)) else (some true)
end
def eT.l0:Nat→List (S30)→Option ((List (S30)))
 | 0,_=>none
 | k+1,x0=>if (x0.length:Int)>0 then (if 0≤(wrap64 ((x0.length:Int)-1)) then (if (wrap64 ((x0.length:Int)-1))<(x0.length:Int) then ((dD.f ((cR x0 (wrap64 ((x0.length:Int)-1))).f0) ((cR x0 (wrap64 ((x0.length:Int)-1))).f1) ((cR x0 (wrap64 ((x0.length:Int)-1))).f2)).bind fun t652=>(if t652=0 then (if (wrap64 ((x0.length:Int)-1))≤(x0.length:Int) then (eT.l0 k (x0.take ((wrap64 ((x0.length:Int)-1)):Int).toNat)) else (none)) else (some x0))) else (none)) else (none)) else (some x0)
def eT.f (k:Nat) (l0:List (S30)):Option ((List (S30))):=eT.l0 k l0
def dX.l0:Nat→List (S30)→List (S30)→Int→Int→Bool→List Int→List Int→Option ((List (S30)))
 | 0,_,_,_,_,_,_,_=>none
 | k+1,x5,x11,x12,x13,x659000,x659001,x659002=>if x13<x12 then (if 0≤x13 then (if x13<(x11.length:Int) then ((gA.f k x659000 x659001 x659002 ((cR x11 x13).f0) ((cR x11 x13).f1) ((cR x11 x13).f2)).bind fun bt664=>(if x13<(x5.length:Int) then (dX.l0 k (x5.set (x13:Int).toNat (⟨bt664.1,bt664.2.1,bt664.2.2⟩:S30)) x11 x12 (wrap64 (x13+1)) x659000 x659001 x659002) else (none))) else (none)) else (none)) else ((eT.f k x5).bind fun t672=>(some t672))
def dX.f (k:Nat) (l0:List (S30)) (a1_0:Bool) (l1_1:List Int) (l1_2:List Int):Option ((List (S30))):=if 0≤(l0.length:Int) then (if ((l0.length:Int):Int).toNat≤5026338869833 then (dX.l0 k (List.replicate ((l0.length:Int):Int).toNat z30) l0 (l0.length:Int) 0 a1_0 l1_1 l1_2) else (none)) else (none)
mutual
def bH.l0:Nat→List (S30)→List Int→List (S30)→Int→Int→Option ((List (S30)))
 | 0,_,_,_,_,_=>none
 | k+1,x0,x3,x17,x18,x19=>if x19<x18 then (if 0≤x19 then (if x19<(x17.length:Int) then ((cq.f k x3 ((cR x17 x19).f2)).bind fun t680=>((aI.f k ((cR x17 x19).f2) t680).bind fun bt683=>((bC.f k x3 bt683.1).bind fun t689=>(bH.l0 k x0 t689 x17 x18 (wrap64 (x19+1)))))) else (none)) else (none)) else (bH.l1 k x0 x3 ([]:List Int) x0 (x0.length:Int) 0)
def bH.l1:Nat→List (S30)→List Int→List Int→List (S30)→Int→Int→Option ((List (S30)))
 | 0,_,_,_,_,_,_=>none
 | k+1,x0,x3,x4,x37,x38,x39=>if x39<x38 then (if 0≤x39 then (if x39<(x37.length:Int) then ((aI.f k x3 ((cR x37 x39).f2)).bind fun bt694=>((bC.f k ((cR x37 x39).f1) bt694.1).bind fun t700=>((cq.f k x4 t700).bind fun t703=>(bH.l1 k x0 x3 t703 x37 x38 (wrap64 (x39+1)))))) else (none)) else (none)) else ((dk.f k false x3 x4).bind fun bt706=>((dX.f k x0 bt706.1 bt706.2.1 bt706.2.2).bind fun t713=>(some t713)))
end
def aZ.l0:Nat→List (S84)→Int→Int→Option ((List (S30))×Int×Int×Bool)
 | 0,_,_,_=>none
 | k+1,x6,x7,x8=>if x8<x7 then (if 0≤x8 then (if x8<(x6.length:Int) then ((cU.f k ((ui x6 x8).f0) ((ui x6 x8).f1) ((ui x6 x8).f2)).bind fun t867=>(if t867=true then (some ((ui x6 x8).f0,(ui x6 x8).f1,(ui x6 x8).f2,true)) else (aZ.l0 k x6 x7 (wrap64 (x8+1))))) else (none)) else (none)) else (some (([]:List (S30)),0,0,false))
def fV.j0:Nat→List Int→Bool→Bool→List Int→List Int→Option (Bool×List Int×List Int)
 | 0,_,_,_,_,_=>none
 | k+1,x3,x19,x931000,x931001,x931002=>if x19=true then ((dg.f k x3 (([1]:List Int))).bind fun t941=>((dk.f k x931000 t941 (([1]:List Int))).bind fun bt947=>(some (bt947.1,bt947.2.1,bt947.2.2)))) else ((dk.f k x931000 x3 (([1]:List Int))).bind fun bt957=>(some (bt957.1,bt957.2.1,bt957.2.2)))
def bO.f (a0_0:Bool) (l0_1:List Int) (l0_2:List Int) (a1:Int):Option (Bool):=if (l0_1.length:Int)≤a1 then (some (decide ((l0_2.length:Int)≤a1))) else (some false)
mutual
def aw.l0:Nat→Int→List (S32)→Int→Int→Option (Bool)
 | 0,_,_,_,_=>none
 | k+1,x1,x9,x10,x11=>if x11<x10 then (if 0≤x11 then (if x11<(x9.length:Int) then (if (((bQ x9 x11).f0).length:Int)>12 then (aw.j1 k x1 x9 x10 x11 true ((bQ x9 x11).f0) ((bQ x9 x11).f1) ((bQ x9 x11).f2.f0) ((bQ x9 x11).f2.f1) ((bQ x9 x11).f2.f2)) else ((bO.f ((bQ x9 x11).f2.f0) ((bQ x9 x11).f2.f1) ((bQ x9 x11).f2.f2) x1).bind fun t1294=>(aw.j1 k x1 x9 x10 x11 (!t1294) ((bQ x9 x11).f0) ((bQ x9 x11).f1) ((bQ x9 x11).f2.f0) ((bQ x9 x11).f2.f1) ((bQ x9 x11).f2.f2)))) else (none)) else (none)) else (some true)
def aw.j1:Nat→Int→List (S32)→Int→Int→Bool→List (S30)→Int→Bool→List Int→List Int→Option (Bool)
 | 0,_,_,_,_,_,_,_,_,_,_=>none
 | k+1,x1,x9,x10,x11,x25,x1294000,x1294001,x1294002,x1294003,x1294004=>if x25=true then (some false) else (aw.l1 k x1 x9 x10 x11 x1294000 (x1294000.length:Int) 0)
def aw.l1:Nat→Int→List (S32)→Int→Int→List (S30)→Int→Int→Option (Bool)
 | 0,_,_,_,_,_,_,_=>none
 | k+1,x1,x9,x10,x11,x27,x28,x29=>if x29<x28 then (if 0≤x29 then (if x29<(x27.length:Int) then ((bO.f ((cR x27 x29).f0) ((cR x27 x29).f1) ((cR x27 x29).f2) x1).bind fun t1297=>(if t1297=true then (aw.l1 k x1 x9 x10 x11 x27 x28 (wrap64 (x29+1))) else (some false))) else (none)) else (none)) else (aw.l0 k x1 x9 x10 (wrap64 (x11+1)))
end
mutual
def ax.l0:Nat→Int→Int→List Int→List Int→Int→Int→Option (List Int)
 | 0,_,_,_,_,_,_=>none
 | k+1,x1,x2,x7,x14,x15,x16=>if x16<x15 then (if 0≤x16 then (if x16<(x14.length:Int) then (if x7.length<17592186044416 then (ax.l0 k x1 (wrap64 (Int.tdiv (wrap64 (x2+(wrap64 ((rd x14 x16)*x1)))) 10000)) (x7++[Int.tmod (wrap64 (x2+(wrap64 ((rd x14 x16)*x1)))) 10000]) x14 x15 (wrap64 (x16+1))) else (none)) else (none)) else (none)) else (ax.l1 k x2 x7)
def ax.l1:Nat→Int→List Int→Option (List Int)
 | 0,_,_=>none
 | k+1,x2,x7=>if x2>0 then (if x7.length<17592186044416 then (ax.l1 k (wrap64 (Int.tdiv x2 10000)) (x7++[Int.tmod x2 10000])) else (none)) else ((aS.f k x7).bind fun t1308=>(some t1308))
end
def ax.f (k:Nat) (l0:List Int) (a1:Int) (a2:Int):Option (List Int):=if 0≤(wrap64 ((l0.length:Int)+2)) then (if (wrap64 ((l0.length:Int)+2):Int).toNat≤35184372088832 then (ax.l0 k a1 a2 (([]:List Int)) l0 (l0.length:Int) 0) else (none)) else (none)
def bf.l0:Nat→List Int→List Int→Int→Option (List Int)
 | 0,_,_,_=>none
 | k+1,x0,x3,x4=>if x4≥0 then (if 0≤x4 then (if x4<(x0.length:Int) then ((ax.f k x3 65536 (wrap64 ((rd x0 x4) / 65536))).bind fun t1315=>((ax.f k t1315 65536 (wrap64 (Go.bits .and .u32 (rd x0 x4) 65535))).bind fun t1319=>(bf.l0 k x0 t1319 (wrap64 (x4-1))))) else (none)) else (none)) else (some x3)
def bf.f (k:Nat) (l0:List Int):Option (List Int):=bf.l0 k l0 (([]:List Int)) (wrap64 ((l0.length:Int)-1))
def bD.f (l0:List Int):Option (Bool):=if (l0.length:Int)≤4096 then (if (l0.length:Int)=0 then (some true) else (if 0≤(wrap64 ((l0.length:Int)-1)) then (if (wrap64 ((l0.length:Int)-1))<(l0.length:Int) then (some ((rd l0 (wrap64 ((l0.length:Int)-1))) != 0)) else (none)) else (none))) else (some false)
def aG.l0:Nat→List Int→List Int→Int→Option (Int)
 | 0,_,_,_=>none
 | k+1,x0,x1,x5=>if x5≥0 then (if 0≤x5 then (if x5<(x0.length:Int) then (if x5<(x1.length:Int) then (if (rd x0 x5)=(rd x1 x5) then (aG.l0 k x0 x1 (wrap64 (x5-1))) else (if (rd x0 x5)<(rd x1 x5) then (some (-1)) else (some 1))) else (none)) else (none)) else (none)) else (some 0)
def aG.f (k:Nat) (l0:List Int) (l1:List Int):Option (Int):=if (l0.length:Int)=(l1.length:Int) then (aG.l0 k l0 l1 (wrap64 ((l0.length:Int)-1))) else (if (l0.length:Int)<(l1.length:Int) then (some (-1)) else (some 1))
def aP.l0:Nat→List Int→Int→Int→Option (Int×Bool)
 | 0,_,_,_=>none
 | k+1,x0,x4,x5=>if x5≥0 then (if 0≤x5 then (if x5<(x0.length:Int) then (aP.l0 k x0 (wrap64 ((wrap64 (x4*10000))+(rd x0 x5))) (wrap64 (x5-1))) else (none)) else (none)) else (some (x4,true))
def aP.f (k:Nat) (l0:List Int):Option (Int×Bool):=if (l0.length:Int)>4 then (some (0,false)) else (aP.l0 k l0 0 (wrap64 ((l0.length:Int)-1)))
def cV.f (l0:List Int):Option (List Int):=(some (([]:List Int):List Int)).bind fun y1328=>(if y1328.length+l0.length<17592186044416 then (some (y1328++l0)) else (none))
def aJ.l0:Nat→List Int→List Int→Int→Int→Int→Option (List Int)
 | 0,_,_,_,_,_=>none
 | k+1,x1,x5,x6,x12,x13=>if x13<x12 then (if 0≤x13 then (if x13<(x5.length:Int) then (if x13<(x1.length:Int) then (if (wrap64 ((wrap64 ((rd x5 x13)-x6))-(rd x1 x13)))<0 then (aJ.l0 k x1 (x5.set (x13:Int).toNat (wrap64 ((wrap64 ((wrap64 ((rd x5 x13)-x6))-(rd x1 x13)))+10000))) 1 x12 (wrap64 (x13+1))) else (aJ.l0 k x1 (x5.set (x13:Int).toNat (wrap64 ((wrap64 ((rd x5 x13)-x6))-(rd x1 x13)))) 0 x12 (wrap64 (x13+1)))) else (if (wrap64 ((rd x5 x13)-x6))<0 then (aJ.l0 k x1 (x5.set (x13:Int).toNat (wrap64 ((wrap64 ((rd x5 x13)-x6))+10000))) 1 x12 (wrap64 (x13+1))) else (aJ.l0 k x1 (x5.set (x13:Int).toNat (wrap64 ((rd x5 x13)-x6))) 0 x12 (wrap64 (x13+1))))) else (none)) else (none)) else ((aS.f k x5).bind fun t1337=>(some t1337))
def aJ.f (k:Nat) (l0:List Int) (l1:List Int):Option (List Int):=(cV.f l0).bind fun t1334=>(aJ.l0 k l1 t1334 0 (t1334.length:Int) 0)
mutual
def ak.l0:Nat→List Int→List Int→Int→Int→Int→Int→Option (Int)
 | 0,_,_,_,_,_,_=>none
 | k+1,x0,x1,x5,x6,x7,x8=>if x8≥(mx 0 (wrap64 (x5-2))) then (if x8<(x0.length:Int) then (if 0≤x8 then (ak.l0 k x0 x1 x5 (wrap64 ((wrap64 (x6*10000))+(rd x0 x8))) x7 (wrap64 (x8-1))) else (none)) else (ak.l0 k x0 x1 x5 (wrap64 (x6*10000)) x7 (wrap64 (x8-1)))) else (ak.l1 k x0 x1 x5 x6 x7 (wrap64 (x5-1)))
def ak.l1:Nat→List Int→List Int→Int→Int→Int→Int→Option (Int)
 | 0,_,_,_,_,_,_=>none
 | k+1,x0,x1,x5,x6,x7,x9=>if x9≥(mx 0 (wrap64 (x5-2))) then (if 0≤x9 then (if x9<(x1.length:Int) then (ak.l1 k x0 x1 x5 x6 (wrap64 ((wrap64 (x7*10000))+(rd x1 x9))) (wrap64 (x9-1))) else (none)) else (none)) else (if x5=1 then (if 0<(x1.length:Int) then (ak.j2 k x0 x1 x6 (rd x1 0)) else (none)) else (ak.j2 k x0 x1 x6 x7))
def ak.j2:Nat→List Int→List Int→Int→Int→Option (Int)
 | 0,_,_,_,_=>none
 | k+1,x0,x1,x6,x7=>if x7=0 then (none) else (ak.l2 k x0 x1 (mn (wrap64 (Int.tdiv x6 x7)) 9999))
def ak.l2:Nat→List Int→List Int→Int→Option (Int)
 | 0,_,_,_=>none
 | k+1,x0,x1,x10=>(ax.f k x1 x10 0).bind fun t1349=>((aG.f k t1349 x0).bind fun t1352=>(if t1352>0 then (ak.l2 k x0 x1 (wrap64 (x10-1))) else (ak.l3 k x0 x1 x10)))
def ak.l3:Nat→List Int→List Int→Int→Option (Int)
 | 0,_,_,_=>none
 | k+1,x0,x1,x10=>if (wrap64 (x10+1))<10000 then ((ax.f k x1 (wrap64 (x10+1)) 0).bind fun t1353=>((aG.f k t1353 x0).bind fun t1356=>(if t1356≤0 then (ak.l3 k x0 x1 (wrap64 (x10+1))) else (some x10)))) else (some x10)
end
def ak.f (k:Nat) (l0:List Int) (l1:List Int):Option (Int):=ak.l0 k l0 l1 (l1.length:Int) 0 0 (l1.length:Int)
def aE.l0:Nat→List Int→List Int→List Int→List Int→Int→Option (List Int×List Int)
 | 0,_,_,_,_,_=>none
 | k+1,x0,x1,x12,x13,x14=>if x14≥0 then (if 0≤x14 then (if x14<(x0.length:Int) then ((ax.f k x13 10000 (rd x0 x14)).bind fun t1389=>((aG.f k t1389 x1).bind fun t1392=>(if t1392<0 then (aE.l0 k x0 x1 x12 t1389 (wrap64 (x14-1))) else ((ak.f k t1389 x1).bind fun t1393=>(if x14<(x12.length:Int) then ((some (x12.set (x14:Int).toNat t1393:List Int)).bind fun y1394=>((ax.f k x1 (rd y1394 x14) 0).bind fun t1396=>((aJ.f k t1389 t1396).bind fun t1399=>(aE.l0 k x0 x1 y1394 t1399 (wrap64 (x14-1)))))) else (none)))))) else (none)) else (none)) else ((aS.f k x12).bind fun t1385=>(some (t1385,x13)))
def aE.f (k:Nat) (l0:List Int) (l1:List Int):Option (List Int×List Int):=(aG.f k l0 l1).bind fun t1357=>(if t1357<0 then (some ((([]:List Int)),l0)) else ((aP.f k l0).bind fun bt1361=>(if bt1361.2=true then ((aP.f k l1).bind fun bt1363=>(if bt1363.1=0 then (none) else ((aH.f k (wrap64 (Int.tdiv bt1361.1 bt1363.1))).bind fun t1365=>((aH.f k (Int.tmod bt1361.1 bt1363.1)).bind fun t1368=>(some (t1365,t1368)))))) else (if (l1.length:Int)=1 then (if 0<(l1.length:Int) then ((ba.f k l0 (rd l1 0)).bind fun bt1372=>((aH.f k bt1372.2).bind fun t1376=>(some (bt1372.1,t1376)))) else (none)) else (if 0≤(l0.length:Int) then (if ((l0.length:Int):Int).toNat≤35184372088832 then (aE.l0 k l0 l1 (List.replicate ((l0.length:Int):Int).toNat 0) (([]:List Int)) (wrap64 ((l0.length:Int)-1))) else (none)) else (none))))))
mutual
def ay.l0:Nat→List Int→List Int→Option (List Int)
 | 0,_,_=>none
 | k+1,x0,x1=>if (x1.length:Int)>0 then ((aP.f k x0).bind fun bt1402=>((aP.f k x1).bind fun bt1404=>(if bt1402.2=true then (ay.j1 k x0 x1 bt1402.1 bt1404.1 bt1404.2) else (ay.j1 k x0 x1 bt1402.1 bt1404.1 false)))) else (some x0)
def ay.j1:Nat→List Int→List Int→Int→Int→Bool→Option (List Int)
 | 0,_,_,_,_,_=>none
 | k+1,x0,x1,x5,x7,x27=>if x27=true then (ay.l1 k x5 x7) else ((aE.f k x0 x1).bind fun bt1409=>(ay.l0 k x1 bt1409.2))
def ay.l1:Nat→Int→Int→Option (List Int)
 | 0,_,_=>none
 | k+1,x5,x7=>if x7>0 then (if x7=0 then (none) else (ay.l1 k x7 (Int.tmod x5 x7))) else ((aH.f k x5).bind fun t1406=>(some t1406))
end
def ay.f (k:Nat) (l0:List Int) (l1:List Int):Option (List Int):=ay.l0 k l0 l1
def bW.j0:Nat→Bool→Bool→List Int→List Int→Option (Bool)
 | 0,_,_,_,_=>none
 | k+1,x18,x1416000,x1416001,x1416002=>if x18=true then (some false) else (if (x1416001.length:Int)=0 then (if x1416000=true then (some false) else (if (x1416002.length:Int)=1 then (if 0<(x1416002.length:Int) then (some ((rd x1416002 0)==1)) else (none)) else (some false))) else ((bf.f k x1416001).bind fun t1419=>((bf.f k x1416002).bind fun t1422=>((ay.f k t1419 t1422).bind fun t1425=>((aG.f k t1425 (([1]:List Int))).bind fun t1431=>(some (t1431==0)))))))
def bW.f (k:Nat) (a0_0:Bool) (l0_1:List Int) (l0_2:List Int):Option (Bool):=(bD.f l0_1).bind fun t1416=>(if t1416=true then ((bD.f l0_2).bind fun t1417=>(if t1417=true then (bW.j0 k ((l0_2.length:Int)==0) a0_0 l0_1 l0_2) else (bW.j0 k true a0_0 l0_1 l0_2))) else (bW.j0 k true a0_0 l0_1 l0_2))
def cC.f (k:Nat) (a0_0:Bool) (l0_1:List Int) (l0_2:List Int):Option (Bool):=(bO.f a0_0 l0_1 l0_2 20).bind fun t1433=>(if t1433=true then ((bW.f k a0_0 l0_1 l0_2).bind fun t1434=>(some t1434)) else (some false))
mutual
def au.j0:Nat→Int→List (S32)→Bool→Option (Bool)
 | 0,_,_,_=>none
 | k+1,x0,x1,x19=>if x19=true then (some false) else (au.l0 k x0 x1 (x1.length:Int) 0)
def au.l0:Nat→Int→List (S32)→Int→Int→Option (Bool)
 | 0,_,_,_,_=>none
 | k+1,x0,x20,x21,x22=>if x22<x21 then (if 0≤x22 then (if x22<(x20.length:Int) then (if (((bQ x20 x22).f0).length:Int)=x0 then (if ((bQ x20 x22).f1)<0 then (au.j2 k x0 x20 x21 x22 true ((bQ x20 x22).f0) ((bQ x20 x22).f1) ((bQ x20 x22).f2.f0) ((bQ x20 x22).f2.f1) ((bQ x20 x22).f2.f2)) else (if ((bQ x20 x22).f1)>2 then (au.j2 k x0 x20 x21 x22 true ((bQ x20 x22).f0) ((bQ x20 x22).f1) ((bQ x20 x22).f2.f0) ((bQ x20 x22).f2.f1) ((bQ x20 x22).f2.f2)) else ((cC.f k ((bQ x20 x22).f2.f0) ((bQ x20 x22).f2.f1) ((bQ x20 x22).f2.f2)).bind fun t1437=>(au.j2 k x0 x20 x21 x22 (!t1437) ((bQ x20 x22).f0) ((bQ x20 x22).f1) ((bQ x20 x22).f2.f0) ((bQ x20 x22).f2.f1) ((bQ x20 x22).f2.f2))))) else (au.j2 k x0 x20 x21 x22 true ((bQ x20 x22).f0) ((bQ x20 x22).f1) ((bQ x20 x22).f2.f0) ((bQ x20 x22).f2.f1) ((bQ x20 x22).f2.f2))) else (none)) else (none)) else (some true)
def au.j2:Nat→Int→List (S32)→Int→Int→Bool→List (S30)→Int→Bool→List Int→List Int→Option (Bool)
 | 0,_,_,_,_,_,_,_,_,_,_=>none
 | k+1,x0,x20,x21,x22,x46,x1437000,x1437001,x1437002,x1437003,x1437004=>if x46=true then (some false) else (au.l1 k x0 x20 x21 x22 x1437000 (x1437000.length:Int) 0)
def au.l1:Nat→Int→List (S32)→Int→Int→List (S30)→Int→Int→Option (Bool)
 | 0,_,_,_,_,_,_,_=>none
 | k+1,x0,x20,x21,x22,x48,x49,x50=>if x50<x49 then (if 0≤x50 then (if x50<(x48.length:Int) then ((cC.f k ((cR x48 x50).f0) ((cR x48 x50).f1) ((cR x48 x50).f2)).bind fun t1440=>(if t1440=true then (au.l1 k x0 x20 x21 x22 x48 x49 (wrap64 (x50+1))) else (some false))) else (none)) else (none)) else (au.l0 k x0 x20 x21 (wrap64 (x22+1)))
end
def bN.l0:Nat→List (S30)→Int→Int→Option (Bool)
 | 0,_,_,_=>none
 | k+1,x11,x12,x13=>if x13<x12 then (if 0≤x13 then (if x13<(x11.length:Int) then ((bO.f ((cR x11 x13).f0) ((cR x11 x13).f1) ((cR x11 x13).f2) 200).bind fun t1445=>(if t1445=true then ((bW.f k ((cR x11 x13).f0) ((cR x11 x13).f1) ((cR x11 x13).f2)).bind fun t1446=>(if t1446=true then (bN.l0 k x11 x12 (wrap64 (x13+1))) else (some false))) else (some false))) else (none)) else (none)) else (some true)
def dN.f (k:Nat) (a0_0:Bool) (l0_1:List Int) (l0_2:List Int):Option (Bool×List Int×List Int):=(bf.f k l0_1).bind fun t1449=>((bf.f k l0_2).bind fun t1452=>(some (a0_0,t1449,t1452)))
def bu.l0:Nat→List (S37)→List (S30)→Int→Int→Option ((List (S37)))
 | 0,_,_,_,_=>none
 | k+1,x3,x6,x7,x8=>if x8<x7 then (if 0≤x8 then (if x8<(x6.length:Int) then ((dN.f k ((cR x6 x8).f0) ((cR x6 x8).f1) ((cR x6 x8).f2)).bind fun bt1457=>(if x3.length<2513169434916 then (bu.l0 k (x3++[(⟨bt1457.1,bt1457.2.1,bt1457.2.2⟩:S37)]) x6 x7 (wrap64 (x8+1))) else (none))) else (none)) else (none)) else (some x3)
def bu.f (k:Nat) (l0:List (S30)):Option ((List (S37))):=bu.l0 k ([]:List (S37)) l0 (l0.length:Int) 0
mutual
def aq.l0:Nat→List Int→List Int→List Int→Int→Int→Option (List Int)
 | 0,_,_,_,_,_=>none
 | k+1,x1,x5,x19,x20,x21=>if x21<x20 then (if 0≤x21 then (if x21<(x19.length:Int) then (aq.l1 k x1 x5 x21 (rd x19 x21) 0 x19 x20 x21 x1 (x1.length:Int) 0) else (none)) else (none)) else ((aS.f k x5).bind fun t1472=>(some t1472))
def aq.l1:Nat→List Int→List Int→Int→Int→Int→List Int→Int→Int→List Int→Int→Int→Option (List Int)
 | 0,_,_,_,_,_,_,_,_,_,_,_=>none
 | k+1,x1,x5,x6,x7,x8,x19,x20,x21,x26,x27,x28=>if x28<x27 then (if 0≤x28 then (if x28<(x26.length:Int) then (if 0≤(wrap64 (x6+x28)) then (if (wrap64 (x6+x28))<(x5.length:Int) then (aq.l1 k x1 (x5.set ((wrap64 (x6+x28)):Int).toNat (Int.tmod (wrap64 (x8+(wrap64 ((rd x5 (wrap64 (x6+x28)))+(wrap64 (x7*(rd x26 x28))))))) 10000)) x6 x7 (wrap64 (Int.tdiv (wrap64 (x8+(wrap64 ((rd x5 (wrap64 (x6+x28)))+(wrap64 (x7*(rd x26 x28))))))) 10000)) x19 x20 x21 x26 x27 (wrap64 (x28+1))) else (none)) else (none)) else (none)) else (none)) else (aq.l2 k x1 x5 x8 (wrap64 (x6+(x1.length:Int))) x19 x20 x21)
def aq.l2:Nat→List Int→List Int→Int→Int→List Int→Int→Int→Option (List Int)
 | 0,_,_,_,_,_,_,_=>none
 | k+1,x1,x5,x8,x11,x19,x20,x21=>if x8>0 then (if 0≤x11 then (if x11<(x5.length:Int) then (aq.l2 k x1 (x5.set (x11:Int).toNat (Int.tmod (wrap64 (x8+(rd x5 x11))) 10000)) (wrap64 (Int.tdiv (wrap64 (x8+(rd x5 x11))) 10000)) (wrap64 (x11+1)) x19 x20 x21) else (none)) else (none)) else (aq.l0 k x1 x5 x19 x20 (wrap64 (x21+1)))
end
def aq.f (k:Nat) (l0:List Int) (l1:List Int):Option (List Int):=if 0≤(wrap64 ((wrap64 ((l0.length:Int)+(l1.length:Int)))+1)) then (if (wrap64 ((wrap64 ((l0.length:Int)+(l1.length:Int)))+1):Int).toNat≤35184372088832 then (aq.l0 k l1 (List.replicate (wrap64 ((wrap64 ((l0.length:Int)+(l1.length:Int)))+1):Int).toNat 0) l0 (l0.length:Int) 0) else (none)) else (none)
def cP.f:Option (Bool×List Int×List Int):=some (false,(([]:List Int)),(([1]:List Int)))
mutual
def bw.j0:Nat→Bool→List Int→List Int→Bool→Option (Bool×List Int×List Int)
 | 0,_,_,_,_=>none
 | k+1,x0,x1,x2,x24=>if x24=true then (some (x0,x1,x2)) else ((ay.f k x1 x2).bind fun t1497=>(if (t1497.length:Int)=1 then (if 0<(t1497.length:Int) then (bw.j1 k x0 x1 x2 t1497 ((rd t1497 0)==1)) else (none)) else (bw.j1 k x0 x1 x2 t1497 false)))
def bw.j1:Nat→Bool→List Int→List Int→List Int→Bool→Option (Bool×List Int×List Int)
 | 0,_,_,_,_,_=>none
 | k+1,x0,x1,x2,x7,x40=>if x40=true then (some (x0,x1,x2)) else ((aE.f k x1 x7).bind fun bt1501=>((aE.f k x2 x7).bind fun bt1507=>(some (x0,bt1501.1,bt1507.1))))
end
def bw.f (k:Nat) (a0:Bool) (l1:List Int) (l2:List Int):Option (Bool×List Int×List Int):=if (l1.length:Int)=0 then ((cP.f).bind fun bt1489=>(some (bt1489.1,bt1489.2.1,bt1489.2.2))) else (if (l2.length:Int)=1 then (if 0<(l2.length:Int) then (bw.j0 k a0 l1 l2 ((rd l2 0)==1)) else (none)) else (bw.j0 k a0 l1 l2 false))
mutual
def aC.l0:Nat→List Int→List Int→List Int→Int→Int→Option (List Int)
 | 0,_,_,_,_,_=>none
 | k+1,x0,x1,x5,x6,x7=>if x7<(x0.length:Int) then (aC.j1 k x0 x1 x5 x6 x7 true) else (if x7<(x1.length:Int) then (aC.j1 k x0 x1 x5 x6 x7 true) else (aC.j1 k x0 x1 x5 x6 x7 (decide (x6>0))))
def aC.j1:Nat→List Int→List Int→List Int→Int→Int→Bool→Option (List Int)
 | 0,_,_,_,_,_,_=>none
 | k+1,x0,x1,x5,x6,x7,x21=>if x21=true then (if x7<(x0.length:Int) then (if 0≤x7 then (if x7<(x1.length:Int) then (if x5.length<17592186044416 then (aC.l0 k x0 x1 (x5++[Int.tmod (wrap64 ((wrap64 (x6+(rd x0 x7)))+(rd x1 x7))) 10000]) (wrap64 (Int.tdiv (wrap64 ((wrap64 (x6+(rd x0 x7)))+(rd x1 x7))) 10000)) (wrap64 (x7+1))) else (none)) else (if x5.length<17592186044416 then (aC.l0 k x0 x1 (x5++[Int.tmod (wrap64 (x6+(rd x0 x7))) 10000]) (wrap64 (Int.tdiv (wrap64 (x6+(rd x0 x7))) 10000)) (wrap64 (x7+1))) else (none))) else (none)) else (if x7<(x1.length:Int) then (if 0≤x7 then (if x5.length<17592186044416 then (aC.l0 k x0 x1 (x5++[Int.tmod (wrap64 (x6+(rd x1 x7))) 10000]) (wrap64 (Int.tdiv (wrap64 (x6+(rd x1 x7))) 10000)) (wrap64 (x7+1))) else (none)) else (none)) else (if x5.length<17592186044416 then (aC.l0 k x0 x1 (x5++[Int.tmod x6 10000]) (wrap64 (Int.tdiv x6 10000)) (wrap64 (x7+1))) else (none)))) else (some x5)
end
def aC.f (k:Nat) (l0:List Int) (l1:List Int):Option (List Int):=aC.l0 k l0 l1 ([]:List Int) 0 0
def dm.f (k:Nat) (a0_0:Bool) (l0_1:List Int) (l0_2:List Int) (a1_0:Bool) (l1_1:List Int) (l1_2:List Int):Option (Bool×List Int×List Int):=(aq.f k l0_1 l1_2).bind fun t1531=>((aq.f k l1_1 l0_2).bind fun t1534=>((aq.f k l0_2 l1_2).bind fun t1537=>(if (a0_0==a1_0)=true then ((aC.f k t1531 t1534).bind fun t1540=>((bw.f k a0_0 t1540 t1537).bind fun bt1543=>(some (bt1543.1,bt1543.2.1,bt1543.2.2)))) else ((aG.f k t1531 t1534).bind fun t1550=>(if t1550≥0 then ((aJ.f k t1531 t1534).bind fun t1551=>((bw.f k a0_0 t1551 t1537).bind fun bt1554=>(some (bt1554.1,bt1554.2.1,bt1554.2.2)))) else ((aJ.f k t1534 t1531).bind fun t1561=>((bw.f k a1_0 t1561 t1537).bind fun bt1564=>(some (bt1564.1,bt1564.2.1,bt1564.2.2)))))))))
def dK.f (k:Nat) (a0_0:Bool) (l0_1:List Int) (l0_2:List Int) (a1_0:Bool) (l1_1:List Int) (l1_2:List Int):Option (Bool×List Int×List Int):=(aq.f k l0_1 l1_1).bind fun t1605=>((aq.f k l0_2 l1_2).bind fun t1608=>((bw.f k (a0_0 != a1_0) t1605 t1608).bind fun bt1611=>(some (bt1611.1,bt1611.2.1,bt1611.2.2))))
def bU.l0:Nat→List (S37)→List (S37)→Int→Int→Bool→List Int→List Int→Option (Bool×List Int×List Int)
 | 0,_,_,_,_,_,_,_=>none
 | k+1,x0,x1,x9,x10,x1627000,x1627001,x1627002=>if x10<x9 then (if 0≤x10 then (if x10<(x0.length:Int) then (if x10<(x1.length:Int) then ((dK.f k ((uj x0 x10).f0) ((uj x0 x10).f1) ((uj x0 x10).f2) ((uj x1 x10).f0) ((uj x1 x10).f1) ((uj x1 x10).f2)).bind fun bt1629=>((dm.f k x1627000 x1627001 x1627002 bt1629.1 bt1629.2.1 bt1629.2.2).bind fun bt1636=>(bU.l0 k x0 x1 x9 (wrap64 (x10+1)) bt1636.1 bt1636.2.1 bt1636.2.2))) else (none)) else (none)) else (none)) else (some (x1627000,x1627001,x1627002))
def bX.l0:Nat→List (S88)→List (S32)→Int→Int→Option ((List (S88)))
 | 0,_,_,_,_=>none
 | k+1,x3,x6,x7,x8=>if x8<x7 then (if 0≤x8 then (if x8<(x6.length:Int) then ((bu.f k ((bQ x6 x8).f0)).bind fun t1654=>((dN.f k ((bQ x6 x8).f2.f0) ((bQ x6 x8).f2.f1) ((bQ x6 x8).f2.f2)).bind fun bt1657=>(if x3.length<1599289640401 then (bX.l0 k (x3++[(⟨t1654,(bQ x6 x8).f1,(⟨bt1657.1,bt1657.2.1,bt1657.2.2⟩:S37)⟩:S88)]) x6 x7 (wrap64 (x8+1))) else (none)))) else (none)) else (none)) else (some x3)
def bG.l0:Nat→List (S30)→Int→Int→Option (Bool)
 | 0,_,_,_=>none
 | k+1,x5,x6,x7=>if x7<x6 then (if 0≤x7 then (if x7<(x5.length:Int) then ((bO.f ((cR x5 x7).f0) ((cR x5 x7).f1) ((cR x5 x7).f2) 2).bind fun t1733=>(if t1733=true then (bG.l0 k x5 x6 (wrap64 (x7+1))) else (some false))) else (none)) else (none)) else (some true)
def bB.l0:Nat→List Int→List Int→Int→Int→Option (Bool)
 | 0,_,_,_,_=>none
 | k+1,x0,x1,x12,x13=>if x13<x12 then (if 0≤x13 then (if x13<(x0.length:Int) then (if x13<(x1.length:Int) then (if (rd x0 x13)=(rd x1 x13) then (bB.l0 k x0 x1 x12 (wrap64 (x13+1))) else (some false)) else (none)) else (none)) else (none)) else (some true)
def bB.f (k:Nat) (l0:List Int) (l1:List Int):Option (Bool):=if (l0.length:Int)=(l1.length:Int) then (bB.l0 k l0 l1 (l0.length:Int) 0) else (some false)
def cE.l0:Nat→List Int→List Int→Int→Int→Option (List Int)
 | 0,_,_,_,_=>none
 | k+1,x0,x5,x7,x8=>if x8<x7 then ((aq.f k x5 x0).bind fun t1909=>(cE.l0 k x0 t1909 x7 (wrap64 (x8+1)))) else (some x5)
def cE.f (k:Nat) (l0:List Int) (a1:Int):Option (List Int):=cE.l0 k l0 (([1]:List Int)) a1 0
end Go.Proofs.YtjimdhlmeebjeaaGreat.P
end
section
namespace Go.Proofs.YtjimdhlmeebjeaaGreat.V
open Go.RowKit Go.Proofs.YtjimdhlmeebjeaaGreatW.PrintWords
set_option linter.unusedVariables false
instance:UL Tryz.prog 2 (.int .i64):=⟨by kernel_rfl⟩
instance:UL Tryz.prog 3 (.int .i64):=⟨by kernel_rfl⟩
instance:UL Tryz.prog 5 (.int .u8):=⟨by kernel_rfl⟩
instance:UL Tryz.prog 9 (.string):=⟨by kernel_rfl⟩
instance:UL Tryz.prog 28 (.slice 105):=⟨by kernel_rfl⟩
instance:UL Tryz.prog 34 (.slice 3):=⟨by kernel_rfl⟩
instance:UL Tryz.prog 35 (.slice 3):=⟨by kernel_rfl⟩
instance:UL Tryz.prog 105 (.int .u32):=⟨by kernel_rfl⟩
instance:UL Tryz.prog 113 (.int .u64):=⟨by kernel_rfl⟩
instance:UL Tryz.prog 125 (.int .u64):=⟨by kernel_rfl⟩
instance:IF Tryz.prog 2 (.int .i64 0) 1 8:=⟨by unfold Info;kernel_rfl⟩
instance:IF Tryz.prog 3 (.int .i64 0) 1 8:=⟨by unfold Info;kernel_rfl⟩
instance:IF Tryz.prog 5 (.int .u8 0) 1 1:=⟨by unfold Info;kernel_rfl⟩
instance:IF Tryz.prog 105 (.int .u32 0) 1 4:=⟨by unfold Info;kernel_rfl⟩
instance:IF Tryz.prog 113 (.int .u64 0) 1 8:=⟨by unfold Info;kernel_rfl⟩
instance:IF Tryz.prog 125 (.int .u64 0) 1 8:=⟨by unfold Info;kernel_rfl⟩
instance:SZ Tryz.prog 3 1:=⟨by kernel_rfl⟩
instance:SZ Tryz.prog 105 1:=⟨by kernel_rfl⟩
instance:FN Tryz.prog 89:=⟨⟨_,Tryz.func89,by decide,by simp [Tryz.f89]⟩⟩
set_option maxRecDepth 100000 in
set_option maxHeartbeats 4000000 in
theorem cX.v (k:Nat) (l0:List Int) (l1:List Int) (r:Int) (h:P.cX.f k l0 l1=some r):Fn Tryz.prog 89 [.ints .u32 l0,.ints .u32 l1] (.int .i64 r):=by
 refine bY Tryz.func89 rfl (Nat.le_of_ble_eq_true rfl) ?_
 intro X hX
 unfold P.cX.f at h
 refine ae (ab ?_)
 refine o1 ?_
 refine aa (ae (ae (ab ?_)))
 iterate 5 refine o1 ?_
 refine aa ?_
 refine aL rfl (fun hb=>?_) (fun hb=>?_)
 ·skip
  obtain ⟨c1,h⟩:=tkF h hb
  have g2:=hb
  clear hb
  refine ae (ae (ab ?_))
  iterate 5 refine o1 ?_
  refine aa ?_
  refine aL rfl (fun hb=>?_) (fun hb=>?_)
  ·skip
   obtain ⟨c3,h⟩:=tkT h hb
   have g4:=hb
   clear hb
   refine ae (ab ?_)
   refine o1 ?_
   refine aa ?_
   obtain rfl:=Option.some.inj h
   exact bh ⟨.inl rfl,.one (.tmp rt) rfl⟩
  ·skip
   obtain ⟨c5,h⟩:=tkF h hb
   have g6:=hb
   clear hb
   refine aN (ae (ab ?_))
   refine o1 ?_
   refine aa ?_
   obtain rfl:=Option.some.inj h
   exact bh ⟨.inl rfl,.one (.tmp rt) rfl⟩
 ·skip
  obtain ⟨c7,h⟩:=tkT h hb
  have g8:=hb
  clear hb
  refine aN (ae (ae (ab ?_)))
  iterate 4 refine o1 ?_
  refine aa (aK (cd ?_))
  refine cn (D:=List Int×List Int×Int×Unit) (fun d=>⟨look [(0,.ints .u32 d.1),(1,.ints .u32 d.2.1),(5,.int .i64 d.2.2.1)],look []⟩) (fun K_ d=>P.cX.l0 K_ d.1 d.2.1 d.2.2.1=some r) ?_ _ (_,_,_,()) h (bm _ _ ⟨rfl,rfl,rfl,trivial⟩ trivial rfl)
  intro K9 ih10 d h
  obtain ⟨x0,x1,x5,_⟩:=d
  dsimp only at h ⊢
  cases K9 with
  | zero=>exact absurd h (by simp [P.cX.l0])
  | succ m11 =>
   simp only [P.cX.l0] at h
   refine bK (ae (ae (ab ?_)))
   iterate 2 refine o1 ?_
   refine aa ?_
   refine aL rfl (fun hb=>?_) (fun hb=>?_)
   ·skip
    obtain ⟨c12,h⟩:=tkT h hb
    have g13:=hb
    clear hb
    obtain ⟨q14,h⟩:=ao h
    obtain ⟨q15,h⟩:=ao h
    obtain ⟨q16,h⟩:=ao h
    refine aN (ae (aK (ae (fT ?_))))
    iterate 9 refine s1 ?_
    refine lR ?_
    refine aL rfl (fun hb=>?_) (fun hb=>?_)
    ·skip
     obtain ⟨c17,h⟩:=tkF h hb
     have g18:=hb
     clear hb
     refine ae (ae (fT ?_))
     iterate 9 refine s1 ?_
     refine lR ?_
     refine aL rfl (fun hb=>?_) (fun hb=>?_)
     ·skip
      obtain ⟨c19,h⟩:=tkT h hb
      have g20:=hb
      clear hb
      refine ae (ab ?_)
      refine o1 ?_
      refine aa ?_
      obtain rfl:=Option.some.inj h
      exact bh ⟨.inl rfl,.one (.tmp rt) rfl⟩
     ·skip
      obtain ⟨c21,h⟩:=tkF h hb
      have g22:=hb
      clear hb
      refine aN (ae (ab ?_))
      refine o1 ?_
      refine aa ?_
      obtain rfl:=Option.some.inj h
      exact bh ⟨.inl rfl,.one (.tmp rt) rfl⟩
    ·skip
     obtain ⟨c23,h⟩:=tkT h hb
     have g24:=hb
     clear hb
     refine aN (ab ?_)
     iterate 3 refine o1 ?_
     refine aa ?_
     exact aW (ih10 m11 (by omega) (_,_,_,()) h) ⟨rfl,rfl,rfl,trivial⟩ trivial rfl
   ·skip
    obtain ⟨c25,h⟩:=tkF h hb
    have g26:=hb
    clear hb
    refine bM (ae (ab ?_))
    refine o1 ?_
    refine aa ?_
    obtain rfl:=Option.some.inj h
    exact bh ⟨.inl rfl,.one (.tmp rt) rfl⟩
instance:FN Tryz.prog 116:=⟨⟨_,Tryz.func116,by decide,by simp [Tryz.f116]⟩⟩
set_option maxRecDepth 100000 in
set_option maxHeartbeats 4000000 in
theorem cJ.v (k:Nat) (l0:List Int) (r:List Int) (h:P.cJ.f k l0=some r):Fn Tryz.prog 116 [.ints .u32 l0] (.ints .u32 r):=by
 refine bY Tryz.func116 rfl (Nat.le_of_ble_eq_true rfl) ?_
 intro X hX
 unfold P.cJ.f at h
 refine ae (ab ?_)
 refine o1 ?_
 refine aa (ae (aK (cd ?_)))
 refine cn (D:=List Int×Unit) (fun d=>⟨look [(0,.ints .u32 d.1)],look []⟩) (fun K_ d=>P.cJ.l0 K_ d.1=some r) ?_ _ (_,()) h (bm _ _ ⟨rfl,trivial⟩ trivial rfl)
 intro K1 ih2 d h
 obtain ⟨x0,_⟩:=d
 dsimp only at h ⊢
 cases K1 with
 | zero=>exact absurd h (by simp [P.cJ.l0])
 | succ m3 =>
  simp only [P.cJ.l0] at h
  refine bK (ae (ae (ab ?_)))
  iterate 4 refine o1 ?_
  refine og rfl rfl rfl rfl (fun hb=>?_) (fun hb=>?_)
  ·skip
   obtain ⟨c4,h⟩:=tkT h hb
   have g5:=hb
   clear hb
   obtain ⟨q6,h⟩:=ao h
   obtain ⟨q7,h⟩:=ao h
   iterate 7 refine oT ?_
   refine o1 ?_
   refine aa ?_
   refine aL rfl (fun hb=>?_) (fun hb=>?_)
   ·skip
    obtain ⟨c8,h⟩:=tkT h hb
    have g9:=hb
    clear hb
    obtain ⟨q10,h⟩:=ao h
    refine aN (aK (ab ?_))
    iterate 6 refine o1 ?_
    refine aa ?_
    exact aW (ih2 m3 (by omega) (_,()) h) ⟨rfl,trivial⟩ trivial rfl
   ·skip
    obtain ⟨c11,h⟩:=tkF h hb
    have g12:=hb
    clear hb
    refine bM (ae (ab ?_))
    iterate 2 refine o1 ?_
    refine aa ?_
    obtain rfl:=Option.some.inj h
    exact bh ⟨.inl rfl,.one (.tmp rt) rfl⟩
  ·skip
   obtain ⟨c13,h⟩:=tkF h hb
   have g14:=hb
   clear hb
   iterate 7 refine opS ?_
   refine o1 ?_
   refine aa ?_
   refine aL rfl (fun hb=>?_) (fun hb=>?_)
   ·skip
    first | cases hb | (simp_all;done)
   ·skip
    refine bM (ae (ab ?_))
    iterate 2 refine o1 ?_
    refine aa ?_
    obtain rfl:=Option.some.inj h
    exact bh ⟨.inl rfl,.one (.tmp rt) rfl⟩
instance:FN Tryz.prog 98:=⟨⟨_,Tryz.func98,by decide,by simp [Tryz.f98]⟩⟩
set_option maxRecDepth 100000 in
set_option maxHeartbeats 4000000 in
theorem dE.v (k:Nat) (a0:Int) (r:List Int) (h:P.dE.f k a0=some r):Fn Tryz.prog 98 [.int .u64 a0] (.ints .u32 r):=by
 refine bY Tryz.func98 rfl (Nat.le_of_ble_eq_true rfl) ?_
 intro X hX
 unfold P.dE.f at h
 refine ae (ab ?_)
 refine o1 ?_
 refine aa (ae (ab ?_))
 iterate 6 refine o1 ?_
 obtain ⟨t1,ht2,h⟩:=Option.bind_eq_some_iff.1 h
 refine opC (cJ.v _ _ _ ht2) ?_
 refine o1 ?_
 refine aa ?_
 obtain rfl:=Option.some.inj h
 exact bh ⟨.inl rfl,.one (.tmp rt) rfl⟩
instance:FN Tryz.prog 127:=⟨⟨_,Tryz.func127,by decide,by simp [Tryz.f127]⟩⟩
set_option maxRecDepth 100000 in
set_option maxHeartbeats 4000000 in
theorem di.v (k:Nat) (l0:List Int) (a1:Int) (r:List Int×Int) (h:P.di.f k l0 a1=some r):Fn Tryz.prog 127 [.ints .u32 l0,.int .u32 a1] (.tup [.ints .u32 r.1,.int .u32 r.2]):=by
 refine bY Tryz.func127 rfl (Nat.le_of_ble_eq_true rfl) ?_
 intro X hX
 unfold P.di.f at h
 obtain ⟨q1,h⟩:=ao h
 obtain ⟨q2,h⟩:=ao h
 refine ae (ab ?_)
 iterate 2 refine o1 ?_
 refine aa (ae (ab ?_))
 iterate 4 refine o1 ?_
 refine aa (ae (ab ?_))
 refine o1 ?_
 refine aa (ae (ae (ab ?_)))
 iterate 4 refine o1 ?_
 refine aa (aK (cd ?_))
 refine cn (D:=List Int×Int×List Int×Int×Int×Unit) (fun d=>⟨look [(0,.ints .u32 d.1),(1,.int .u32 d.2.1),(6,.own 11),(7,.int .u64 d.2.2.2.1),(8,.int .i64 d.2.2.2.2.1)],look [(11,gi 105 .u32 d.2.2.1)]⟩) (fun K_ d=>P.di.l0 K_ d.1 d.2.1 d.2.2.1 d.2.2.2.1 d.2.2.2.2.1=some r) ?_ _ (_,_,_,_,_,()) h (bm _ _ ⟨rfl,rfl,rfl,rfl,rfl,trivial⟩ ⟨rfl,trivial⟩ rfl)
 intro K3 ih4 d h
 obtain ⟨x0,x1,x6,x7,x8,_⟩:=d
 dsimp only at h ⊢
 cases K3 with
 | zero=>exact absurd h (by simp [P.di.l0])
 | succ m5 =>
  simp only [P.di.l0] at h
  refine bK (ae (ae (ab ?_)))
  iterate 2 refine o1 ?_
  refine aa ?_
  refine aL rfl (fun hb=>?_) (fun hb=>?_)
  ·skip
   obtain ⟨c6,h⟩:=tkT h hb
   have g7:=hb
   clear hb
   obtain ⟨q8,h⟩:=ao h
   obtain ⟨q9,h⟩:=ao h
   obtain ⟨q10,h⟩:=iX h
   obtain ⟨q11,h⟩:=ao h
   refine aN (ae (aK (ae (ab ?_))))
   iterate 9 refine o1 ?_
   refine aa (ae (ab ?_))
   iterate 9 refine o1 ?_
   refine aa (ab ?_)
   iterate 5 refine o1 ?_
   refine aa (ab ?_)
   iterate 3 refine o1 ?_
   refine aa ?_
   exact aW (ih4 m5 (by omega) (_,_,_,_,_,()) h) ⟨rfl,rfl,rfl,rfl,rfl,trivial⟩ ⟨rfl,trivial⟩ rfl
  ·skip
   obtain ⟨c12,h⟩:=tkF h hb
   have g13:=hb
   clear hb
   refine bM (ae ?_)
   refine eJ (dz (k:=11) rfl) ?_
   refine ab ?_
   refine o1 ?_
   obtain ⟨t14,ht15,h⟩:=Option.bind_eq_some_iff.1 h
   refine opC (cJ.v _ _ _ ht15) ?_
   iterate 4 refine o1 ?_
   refine aa ?_
   obtain rfl:=Option.some.inj h
   exact bh ⟨.inl rfl,.two (.tmp rt) (.tmp rt) rfl rfl⟩
instance:FN Tryz.prog 137:=⟨⟨_,Tryz.func137,by decide,by simp [Tryz.f137]⟩⟩
set_option maxRecDepth 100000 in
set_option maxHeartbeats 4000000 in
theorem iL.v (a0:Int) (r:Int) (h:P.iL.f a0=some r):Fn Tryz.prog 137 [.int .u32 a0] (.int .i64 r):=by
 refine bY Tryz.func137 rfl (Nat.le_of_ble_eq_true rfl) ?_
 intro X hX
 unfold P.iL.f at h
 refine ae (ab ?_)
 refine o1 ?_
 refine aa (ae (ae (ab ?_)))
 iterate 2 refine o1 ?_
 refine aa ?_
 refine aL rfl (fun hb=>?_) (fun hb=>?_)
 ·skip
  obtain ⟨c1,h⟩:=tkT h hb
  have g2:=hb
  clear hb
  refine ae (ab ?_)
  iterate 3 refine o1 ?_
  refine aa (ab ?_)
  refine o1 ?_
  refine aa (ae (ae (ab ?_)))
  iterate 2 refine o1 ?_
  refine aa ?_
  refine aL rfl (fun hb=>?_) (fun hb=>?_)
  ·skip
   obtain ⟨c3,h⟩:=tkT h hb
   have g4:=hb
   clear hb
   obtain ⟨q5,h⟩:=ao h
   obtain ⟨q6,h⟩:=ao h
   refine ae (ab ?_)
   iterate 3 refine o1 ?_
   refine aa (ab ?_)
   iterate 3 refine o1 ?_
   refine aa (ae (ab ?_))
   iterate 7 refine o1 ?_
   refine aa ?_
   obtain rfl:=Option.some.inj h
   exact bh ⟨.inl rfl,.one (.tmp rt) rfl⟩
  ·skip
   obtain ⟨c7,h⟩:=tkF h hb
   have g8:=hb
   clear hb
   obtain ⟨q9,h⟩:=ao h
   obtain ⟨q10,h⟩:=ao h
   refine aN (ae (ab ?_))
   iterate 7 refine o1 ?_
   refine aa ?_
   obtain rfl:=Option.some.inj h
   exact bh ⟨.inl rfl,.one (.tmp rt) rfl⟩
 ·skip
  obtain ⟨c11,h⟩:=tkF h hb
  have g12:=hb
  clear hb
  refine aN (ae (ae (ab ?_)))
  iterate 2 refine o1 ?_
  refine aa ?_
  refine aL rfl (fun hb=>?_) (fun hb=>?_)
  ·skip
   obtain ⟨c13,h⟩:=tkT h hb
   have g14:=hb
   clear hb
   obtain ⟨q15,h⟩:=ao h
   obtain ⟨q16,h⟩:=ao h
   refine ae (ab ?_)
   iterate 3 refine o1 ?_
   refine aa (ab ?_)
   iterate 3 refine o1 ?_
   refine aa (ae (ab ?_))
   iterate 7 refine o1 ?_
   refine aa ?_
   obtain rfl:=Option.some.inj h
   exact bh ⟨.inl rfl,.one (.tmp rt) rfl⟩
  ·skip
   obtain ⟨c17,h⟩:=tkF h hb
   have g18:=hb
   clear hb
   obtain ⟨q19,h⟩:=ao h
   obtain ⟨q20,h⟩:=ao h
   refine aN (ae (ab ?_))
   iterate 7 refine o1 ?_
   refine aa ?_
   obtain rfl:=Option.some.inj h
   exact bh ⟨.inl rfl,.one (.tmp rt) rfl⟩
instance:FN Tryz.prog 128:=⟨⟨_,Tryz.func128,by decide,by simp [Tryz.f128]⟩⟩
set_option maxRecDepth 100000 in
set_option maxHeartbeats 4000000 in
theorem cQ.v (a0:Int) (r:Int) (h:P.cQ.f a0=some r):Fn Tryz.prog 128 [.int .u32 a0] (.int .i64 r):=by
 refine bY Tryz.func128 rfl (Nat.le_of_ble_eq_true rfl) ?_
 intro X hX
 unfold P.cQ.f at h
 refine ae (ab ?_)
 refine o1 ?_
 refine aa (ae (ab ?_))
 refine o1 ?_
 obtain ⟨t1,ht2,h⟩:=Option.bind_eq_some_iff.1 h
 refine opC (iL.v _ _ ht2) ?_
 iterate 2 refine o1 ?_
 refine aa ?_
 obtain rfl:=Option.some.inj h
 exact bh ⟨.inl rfl,.one (.tmp rt) rfl⟩
instance:FN Tryz.prog 129:=⟨⟨_,Tryz.func129,by decide,by simp [Tryz.f129]⟩⟩
set_option maxRecDepth 100000 in
set_option maxHeartbeats 4000000 in
theorem fk.v (k:Nat) (l0:List Int) (a1:Int) (r:List Int) (h:P.fk.f k l0 a1=some r):Fn Tryz.prog 129 [.ints .u32 l0,.int .i64 a1] (.ints .u32 r):=by
 refine bY Tryz.func129 rfl (Nat.le_of_ble_eq_true rfl) ?_
 intro X hX
 unfold P.fk.f at h
 refine ae (ab ?_)
 refine o1 ?_
 refine aa (ae (ae (ab ?_)))
 iterate 3 refine o1 ?_
 refine aa ?_
 refine aL rfl (fun hb=>?_) (fun hb=>?_)
 ·skip
  obtain ⟨c1,h⟩:=tkT h hb
  have g2:=hb
  clear hb
  refine ae (ab ?_)
  refine o1 ?_
  refine aa ?_
  obtain rfl:=Option.some.inj h
  exact bh ⟨.inl rfl,.one (.tmp rt) rfl⟩
 ·skip
  obtain ⟨c3,h⟩:=tkF h hb
  have g4:=hb
  clear hb
  obtain ⟨q5,h⟩:=ao h
  obtain ⟨q6,h⟩:=ao h
  refine aN (ae (ab ?_))
  iterate 7 refine o1 ?_
  refine aa (ae (ab ?_))
  iterate 7 refine o1 ?_
  refine aa (ae (ae (ab ?_)))
  iterate 3 refine o1 ?_
  refine aa (aK (cd ?_))
  refine cn (D:=Int×Int×List Int×List Int×Int×Int×Unit) (fun d=>⟨look [(5,.int .i64 d.1),(6,.int .u64 d.2.1),(7,.own 24),(25,.ints .u32 d.2.2.2.1),(26,.int .i64 d.2.2.2.2.1),(27,.int .i64 d.2.2.2.2.2.1)],look [(24,gi 105 .u32 d.2.2.1)]⟩) (fun K_ d=>P.fk.l0 K_ d.1 d.2.1 d.2.2.1 d.2.2.2.1 d.2.2.2.2.1 d.2.2.2.2.2.1=some r∧0≤d.2.1) ?_ _ (_,_,_,_,_,_,()) ⟨h,nv⟩ (bm _ _ ⟨rfl,rfl,rfl,rfl,rfl,rfl,trivial⟩ ⟨rfl,trivial⟩ rfl)
  intro K7 ih8 d h
  obtain ⟨h,b10⟩:=h
  obtain ⟨x5,x6,x7,x25,x26,x27,_⟩:=d
  dsimp only at h b10 ⊢
  cases K7 with
  | zero=>exact absurd h (by simp [P.fk.l0])
  | succ m9 =>
   simp only [P.fk.l0] at h
   refine bK (ae (ab ?_))
   refine o1 ?_
   refine aa (ae ?_)
   refine aL rfl (fun hb=>?_) (fun hb=>?_)
   ·skip
    obtain ⟨c11,h⟩:=tkT h hb
    have g12:=hb
    clear hb
    obtain ⟨q13,h⟩:=ao h
    obtain ⟨q14,h⟩:=ao h
    obtain ⟨q15,h⟩:=ao h
    obtain ⟨q16,h⟩:=ao h
    obtain ⟨q17,h⟩:=ao h
    obtain ⟨q18,h⟩:=ao h
    obtain ⟨q19,h⟩:=ao h
    refine aN (ae (aK (ae (ab ?_))))
    iterate 5 refine o1 ?_
    refine aa (ae (ab ?_))
    iterate 5 refine o1 ?_
    refine aa (ae (ab ?_))
    iterate 11 refine o1 ?_
    refine aa (ab ?_)
    iterate 10 refine o1 ?_
    refine aa (ab ?_)
    iterate 2 refine o1 ?_
    refine aa ?_
    exact aW (ih8 m9 (by omega) (_,_,_,_,_,_,()) ⟨h,nv⟩) ⟨rfl,rfl,rfl,rfl,rfl,rfl,trivial⟩ ⟨rfl,trivial⟩ rfl
   ·skip
    obtain ⟨c20,h⟩:=tkF h hb
    have g21:=hb
    clear hb
    refine bM (ae ?_)
    refine eJ (dz (k:=24) rfl) ?_
    refine ab ?_
    refine o1 ?_
    obtain ⟨t22,ht23,h⟩:=Option.bind_eq_some_iff.1 h
    refine opC (cJ.v _ _ _ ht23) ?_
    refine o1 ?_
    refine aa ?_
    obtain rfl:=Option.some.inj h
    exact bh ⟨.inl rfl,.one (.tmp rt) rfl⟩
instance:FN Tryz.prog 130:=⟨⟨_,Tryz.func130,by decide,by simp [Tryz.f130]⟩⟩
set_option maxRecDepth 100000 in
set_option maxHeartbeats 4000000 in
theorem cw.v {pre post:List Int} {e_:TypeId} (k:Nat) (l0:List Int) (l1:List Int) (a2:Int) (r:Bool×List Int) (h:P.cw.f k l0 l1 a2=some r):FnW Tryz.prog 130 [.win eN pre.length l0.length,.ints .u32 l1,.int .u64 a2] (gi e_ .u32 (pre++l0++post)) (.bool r.1) (gi e_ .u32 (pre++r.2++post)):=by
 refine qa Tryz.func130 rfl (Nat.le_of_ble_eq_true rfl) rfl ?_
 intro X hX
 unfold P.cw.f at h
 refine ae (ab ?_)
 refine o1 ?_
 refine aa (ae (ab ?_))
 iterate 2 refine o1 ?_
 refine aa (ae (ae (ab ?_)))
 iterate 3 refine o1 ?_
 refine aa (aK (cd ?_))
 refine cn (D:=List Int×List Int×Int×Int×Int×List Int×Int×Int×Unit) (fun d=>⟨look [(0,.win eN pre.length l0.length),(1,.ints .u32 d.2.1),(2,.int .u64 d.2.2.1),(7,.int .u64 d.2.2.2.1),(8,.int .u64 d.2.2.2.2.1),(13,.ints .u32 d.2.2.2.2.2.1),(14,.int .i64 d.2.2.2.2.2.2.1),(15,.int .i64 d.2.2.2.2.2.2.2.1)],look [(eN,gi e_ .u32 (pre++d.1++post))]⟩) (fun K_ d=>P.cw.l0 K_ d.1 d.2.1 d.2.2.1 d.2.2.2.1 d.2.2.2.2.1 d.2.2.2.2.2.1 d.2.2.2.2.2.2.1 d.2.2.2.2.2.2.2.1=some r∧d.1.length=l0.length) ?_ _ (_,_,_,_,_,_,_,_,()) ⟨h,nv⟩ (bm _ _ ⟨rfl,rfl,rfl,rfl,rfl,rfl,rfl,rfl,trivial⟩ ⟨rfl,trivial⟩ rfl)
 intro K1 ih2 d h
 obtain ⟨h,b4⟩:=h
 obtain ⟨x0,x1,x2,x7,x8,x13,x14,x15,_⟩:=d
 dsimp only at h b4 ⊢
 cases K1 with
 | zero=>exact absurd h (by simp [P.cw.l0])
 | succ m3 =>
  simp only [P.cw.l0] at h
  refine bK (ae (ab ?_))
  refine o1 ?_
  refine aa (ae ?_)
  refine aL rfl (fun hb=>?_) (fun hb=>?_)
  ·skip
   obtain ⟨c5,h⟩:=tkT h hb
   have g6:=hb
   clear hb
   obtain ⟨q7,h⟩:=ao h
   obtain ⟨q8,h⟩:=ao h
   obtain ⟨q9,h⟩:=ao h
   refine aN (ae (aK (ae (ab ?_))))
   iterate 5 refine o1 ?_
   refine aa (ae (ab ?_))
   iterate 7 refine o1 ?_
   refine aa (ae (ab ?_))
   iterate 12 refine o1 ?_
   refine aa (ae (ab ?_))
   iterate 6 refine o1 ?_
   refine aa (ae (ab ?_))
   iterate 3 refine o1 ?_
   refine aa (ab ?_)
   iterate 3 refine o1 ?_
   refine aa (ab ?_)
   iterate 2 refine o1 ?_
   refine aa ?_
   exact aW (ih2 m3 (by omega) (_,_,_,_,_,_,_,_,()) ⟨h,nv⟩) ⟨rfl,rfl,rfl,rfl,rfl,rfl,rfl,rfl,trivial⟩ ⟨rfl,trivial⟩ rfl
  ·skip
   obtain ⟨c10,h⟩:=tkF h hb
   have g11:=hb
   clear hb
   obtain ⟨q12,h⟩:=ao h
   obtain ⟨q13,h⟩:=ao h
   refine bM (ae (ab ?_))
   iterate 11 refine o1 ?_
   refine aa (ae (ab ?_))
   iterate 7 refine o1 ?_
   refine aa (ae (ab ?_))
   iterate 4 refine o1 ?_
   refine aa ?_
   obtain rfl:=Option.some.inj h
   exact bh ⟨.inl rfl,.one (.tmp rt) rfl,rfl⟩
theorem cw.len (k:Nat):∀ x0 x1 x2 x7 x8 x13 x14 x15 (r:Bool×List Int),P.cw.l0 k x0 x1 x2 x7 x8 x13 x14 x15=some r→r.2.length=x0.length:=by
 induction k with
 | zero=>intro x0 x1 x2 x7 x8 x13 x14 x15 r h;simp [P.cw.l0] at h
 | succ k ih =>
  intro x0 x1 x2 x7 x8 x13 x14 x15 r h
  simp only [P.cw.l0] at h
  repeat' split at h
  all_goals first
   | (cases h;done)
   | (have:=ih _ _ _ _ _ _ _ _ _ h;simpa using this)
   | (cases h;simp)
theorem cS.len {k:Nat} {l:List Int} {b1 b2:Int} {l1:List Int} {a2:Int} {r:Bool×List Int} (h:P.cS.f k l b1 b2 l1 a2=some r) (h0:0≤b1) (h1:b1≤b2) (h2:b2≤l.length):r.2.length=l.length:=by
 unfold P.cS.f at h
 obtain ⟨p,h3,h4⟩:=Option.bind_eq_some_iff.1 h
 obtain rfl:=Option.some.inj h4
 have:=cw.len _ _ _ _ _ _ _ _ _ _ h3
 simp only [List.length_append,List.length_take,List.length_drop] at this ⊢
 omega
theorem cS.v {e_:TypeId} {k:Nat} {l:List Int} {b1 b2:Int} {l1:List Int} {a2:Int} {r:Bool×List Int} (h:P.cS.f k l b1 b2 l1 a2=some r) (h0:0≤b1) (h1:b1≤b2) (h2:b2≤l.length):FnW Tryz.prog 130 [.win eN b1.toNat (b2.toNat-b1.toNat),.ints .u32 l1,.int .u64 a2] (gi e_ .u32 l) (.bool r.1) (gi e_ .u32 r.2):=by
 unfold P.cS.f at h
 obtain ⟨p,h3,h4⟩:=Option.bind_eq_some_iff.1 h
 obtain rfl:=Option.some.inj h4
 have:=cw.v (pre:=l.take b1.toNat) (post:=l.drop b2.toNat) (e_:=e_) k _ l1 a2 p h3
 have e1:l.take b1.toNat++(l.take b2.toNat).drop b1.toNat++l.drop b2.toNat=l:=by
  have:l.take b1.toNat=(l.take b2.toNat).take b1.toNat:=by rw [List.take_take,Nat.min_eq_left (by omega)]
  rw [this,List.take_append_drop,List.take_append_drop]
 have e2:(l.take b1.toNat).length=b1.toNat:=by rw [List.length_take];omega
 have e3:((l.take b2.toNat).drop b1.toNat).length=b2.toNat-b1.toNat:=by rw [List.length_drop,List.length_take];omega
 rw [e1,e2,e3] at this
 exact this
instance:FN Tryz.prog 131:=⟨⟨_,Tryz.func131,by decide,by simp [Tryz.f131]⟩⟩
set_option maxRecDepth 100000 in
set_option maxHeartbeats 4000000 in
theorem cF.v {pre post:List Int} {e_:TypeId} (k:Nat) (l0:List Int) (l1:List Int) (r:List Int) (h:P.cF.f k l0 l1=some r):FnW Tryz.prog 131 [.win eN pre.length l0.length,.ints .u32 l1] (gi e_ .u32 (pre++l0++post)) (.tup []) (gi e_ .u32 (pre++r++post)):=by
 refine qa Tryz.func131 rfl (Nat.le_of_ble_eq_true rfl) rfl ?_
 intro X hX
 unfold P.cF.f at h
 refine ae (ab ?_)
 refine o1 ?_
 refine aa (ae (ae (ab ?_)))
 iterate 3 refine o1 ?_
 refine aa (aK (cd ?_))
 refine cn (D:=List Int×List Int×Int×List Int×Int×Int×Unit) (fun d=>⟨look [(0,.win eN pre.length l0.length),(1,.ints .u32 d.2.1),(4,.int .u64 d.2.2.1),(7,.ints .u32 d.2.2.2.1),(8,.int .i64 d.2.2.2.2.1),(9,.int .i64 d.2.2.2.2.2.1)],look [(eN,gi e_ .u32 (pre++d.1++post))]⟩) (fun K_ d=>P.cF.l0 K_ d.1 d.2.1 d.2.2.1 d.2.2.2.1 d.2.2.2.2.1 d.2.2.2.2.2.1=some r∧d.1.length=l0.length) ?_ _ (_,_,_,_,_,_,()) ⟨h,nv⟩ (bm _ _ ⟨rfl,rfl,rfl,rfl,rfl,rfl,trivial⟩ ⟨rfl,trivial⟩ rfl)
 intro K1 ih2 d h
 obtain ⟨h,b4⟩:=h
 obtain ⟨x0,x1,x4,x7,x8,x9,_⟩:=d
 dsimp only at h b4 ⊢
 cases K1 with
 | zero=>exact absurd h (by simp [P.cF.l0])
 | succ m3 =>
  simp only [P.cF.l0] at h
  refine bK (ae (ab ?_))
  refine o1 ?_
  refine aa (ae ?_)
  refine aL rfl (fun hb=>?_) (fun hb=>?_)
  ·skip
   obtain ⟨c5,h⟩:=tkT h hb
   have g6:=hb
   clear hb
   obtain ⟨q7,h⟩:=ao h
   obtain ⟨q8,h⟩:=ao h
   obtain ⟨q9,h⟩:=ao h
   refine aN (ae (aK (ae (ab ?_))))
   iterate 5 refine o1 ?_
   refine aa (ae (ab ?_))
   iterate 11 refine o1 ?_
   refine aa (ae (ab ?_))
   iterate 6 refine o1 ?_
   refine aa (ab ?_)
   iterate 3 refine o1 ?_
   refine aa (ab ?_)
   iterate 2 refine o1 ?_
   refine aa ?_
   exact aW (ih2 m3 (by omega) (_,_,_,_,_,_,()) ⟨h,nv⟩) ⟨rfl,rfl,rfl,rfl,rfl,rfl,trivial⟩ ⟨rfl,trivial⟩ rfl
  ·skip
   obtain ⟨c10,h⟩:=tkF h hb
   have g11:=hb
   clear hb
   obtain ⟨q12,h⟩:=ao h
   obtain ⟨q13,h⟩:=ao h
   refine bM (ab ?_)
   iterate 10 refine o1 ?_
   refine aa ?_
   obtain rfl:=Option.some.inj h
   exact ⟨.inr rfl,.zero,rfl⟩
theorem cF.len (k:Nat):∀ x0 x1 x4 x7 x8 x9 (r:List Int),P.cF.l0 k x0 x1 x4 x7 x8 x9=some r→r.length=x0.length:=by
 induction k with
 | zero=>intro x0 x1 x4 x7 x8 x9 r h;simp [P.cF.l0] at h
 | succ k ih =>
  intro x0 x1 x4 x7 x8 x9 r h
  simp only [P.cF.l0] at h
  repeat' split at h
  all_goals first
   | (cases h;done)
   | (have:=ih _ _ _ _ _ _ _ h;simpa using this)
   | (cases h;simp)
theorem df.len {k:Nat} {l:List Int} {b1 b2:Int} {l1:List Int} {r:List Int} (h:P.df.f k l b1 b2 l1=some r) (h0:0≤b1) (h1:b1≤b2) (h2:b2≤l.length):r.length=l.length:=by
 unfold P.df.f at h
 obtain ⟨p,h3,h4⟩:=Option.bind_eq_some_iff.1 h
 obtain rfl:=Option.some.inj h4
 have:=cF.len _ _ _ _ _ _ _ _ h3
 simp only [List.length_append,List.length_take,List.length_drop] at this ⊢
 omega
theorem df.v {e_:TypeId} {k:Nat} {l:List Int} {b1 b2:Int} {l1:List Int} {r:List Int} (h:P.df.f k l b1 b2 l1=some r) (h0:0≤b1) (h1:b1≤b2) (h2:b2≤l.length):FnW Tryz.prog 131 [.win eN b1.toNat (b2.toNat-b1.toNat),.ints .u32 l1] (gi e_ .u32 l) (.tup []) (gi e_ .u32 r):=by
 unfold P.df.f at h
 obtain ⟨p,h3,h4⟩:=Option.bind_eq_some_iff.1 h
 obtain rfl:=Option.some.inj h4
 have:=cF.v (pre:=l.take b1.toNat) (post:=l.drop b2.toNat) (e_:=e_) k _ l1 p h3
 have e1:l.take b1.toNat++(l.take b2.toNat).drop b1.toNat++l.drop b2.toNat=l:=by
  have:l.take b1.toNat=(l.take b2.toNat).take b1.toNat:=by rw [List.take_take,Nat.min_eq_left (by omega)]
  rw [this,List.take_append_drop,List.take_append_drop]
 have e2:(l.take b1.toNat).length=b1.toNat:=by rw [List.length_take];omega
 have e3:((l.take b2.toNat).drop b1.toNat).length=b2.toNat-b1.toNat:=by rw [List.length_drop,List.length_take];omega
 rw [e1,e2,e3] at this
 exact this
instance:FN Tryz.prog 132:=⟨⟨_,Tryz.func132,by decide,by simp [Tryz.f132]⟩⟩
set_option maxRecDepth 100000 in
set_option maxHeartbeats 4000000 in
theorem fe.v (k:Nat) (l0:List Int) (a1:Int) (r:List Int) (h:P.fe.f k l0 a1=some r):Fn Tryz.prog 132 [.ints .u32 l0,.int .i64 a1] (.ints .u32 r):=by
 refine bY Tryz.func132 rfl (Nat.le_of_ble_eq_true rfl) ?_
 intro X hX
 unfold P.fe.f at h
 refine ae (ab ?_)
 refine o1 ?_
 refine aa (ae (ab ?_))
 iterate 7 refine o1 ?_
 refine aa (ae (ae (ab ?_)))
 iterate 4 refine o1 ?_
 refine aa ?_
 refine aL rfl (fun hb=>?_) (fun hb=>?_)
 ·skip
  obtain ⟨c1,h⟩:=tkT h hb
  have g2:=hb
  clear hb
  refine ae (ab ?_)
  refine o1 ?_
  refine aa ?_
  obtain rfl:=Option.some.inj h
  exact bh ⟨.inl rfl,.one (.tmp rt) rfl⟩
 ·skip
  obtain ⟨c3,h⟩:=tkF h hb
  have g4:=hb
  clear hb
  obtain ⟨q5,h⟩:=ao h
  obtain ⟨q6,h⟩:=ao h
  replace h:=bsome h
  refine aN (ae (ab ?_))
  iterate 6 refine o1 ?_
  refine aa (ae (ae (ab ?_)))
  iterate 3 refine o1 ?_
  refine aa (aK (cd ?_))
  refine cn (D:=List Int×Int×Int×List Int×Int×Int×Unit) (fun d=>⟨look [(0,.ints .u32 d.1),(5,.int .i64 d.2.1),(6,.int .u64 d.2.2.1),(7,.own 23),(25,.int .i64 d.2.2.2.2.1),(26,.int .i64 d.2.2.2.2.2.1)],look [(23,gi 105 .u32 d.2.2.2.1)]⟩) (fun K_ d=>P.fe.l0 K_ d.1 d.2.1 d.2.2.1 d.2.2.2.1 d.2.2.2.2.1 d.2.2.2.2.2.1=some r∧0≤d.2.2.1) ?_ _ (_,_,_,_,_,_,()) ⟨h,nv⟩ (bm _ _ ⟨rfl,rfl,rfl,rfl,rfl,rfl,trivial⟩ ⟨rfl,trivial⟩ rfl)
  intro K7 ih8 d h
  obtain ⟨h,b10⟩:=h
  obtain ⟨x0,x5,x6,x7,x25,x26,_⟩:=d
  dsimp only at h b10 ⊢
  cases K7 with
  | zero=>exact absurd h (by simp [P.fe.l0])
  | succ m9 =>
   simp only [P.fe.l0] at h
   refine bK (ae (ab ?_))
   refine o1 ?_
   refine aa (ae ?_)
   refine aL rfl (fun hb=>?_) (fun hb=>?_)
   ·skip
    obtain ⟨c11,h⟩:=tkT h hb
    have g12:=hb
    clear hb
    obtain ⟨q13,h⟩:=ao h
    obtain ⟨q14,h⟩:=ao h
    refine aN (ae (aK (ae (ab ?_))))
    iterate 2 refine o1 ?_
    refine aa (ae (ab ?_))
    iterate 8 refine o1 ?_
    refine aa (ae (ae (ab ?_)))
    iterate 7 refine o1 ?_
    refine aa ?_
    refine aL rfl (fun hb=>?_) (fun hb=>?_)
    ·skip
     obtain ⟨c15,h⟩:=tkT h hb
     have g16:=hb
     clear hb
     obtain ⟨q17,h⟩:=ao h
     obtain ⟨q18,h⟩:=ao h
     obtain ⟨q19,h⟩:=ao h
     obtain ⟨q20,h⟩:=ao h
     refine ab ?_
     iterate 12 refine o1 ?_
     refine aa (ab ?_)
     iterate 8 refine o1 ?_
     refine aa (ab ?_)
     iterate 2 refine o1 ?_
     refine aa ?_
     exact aW (ih8 m9 (by omega) (_,_,_,_,_,_,()) ⟨h,nv⟩) ⟨rfl,rfl,rfl,rfl,rfl,rfl,trivial⟩ ⟨rfl,trivial⟩ rfl
    ·skip
     obtain ⟨c21,h⟩:=tkF h hb
     have g22:=hb
     clear hb
     obtain ⟨q23,h⟩:=ao h
     obtain ⟨q24,h⟩:=ao h
     obtain ⟨q25,h⟩:=ao h
     refine aN (ab ?_)
     iterate 8 refine o1 ?_
     refine aa (ab ?_)
     iterate 2 refine o1 ?_
     refine aa ?_
     exact aW (ih8 m9 (by omega) (_,_,_,_,_,_,()) ⟨h,nv⟩) ⟨rfl,rfl,rfl,rfl,rfl,rfl,trivial⟩ ⟨rfl,trivial⟩ rfl
   ·skip
    obtain ⟨c26,h⟩:=tkF h hb
    have g27:=hb
    clear hb
    refine bM (ae ?_)
    refine eJ (dz (k:=23) rfl) ?_
    refine ab ?_
    refine o1 ?_
    obtain ⟨t28,ht29,h⟩:=Option.bind_eq_some_iff.1 h
    refine opC (cJ.v _ _ _ ht29) ?_
    refine o1 ?_
    refine aa ?_
    obtain rfl:=Option.some.inj h
    exact bh ⟨.inl rfl,.one (.tmp rt) rfl⟩
instance:FN Tryz.prog 117:=⟨⟨_,Tryz.func117,by decide,by simp [Tryz.f117]⟩⟩
set_option maxRecDepth 100000 in
set_option maxHeartbeats 4000000 in
theorem aI.v (k:Nat) (l0:List Int) (l1:List Int) (r:List Int×List Int) (h:P.aI.f k l0 l1=some r):Fn Tryz.prog 117 [.ints .u32 l0,.ints .u32 l1] (.tup [.ints .u32 r.1,.ints .u32 r.2]):=by
 refine bY Tryz.func117 rfl (Nat.le_of_ble_eq_true rfl) ?_
 intro X hX
 unfold P.aI.f at h
 refine ae (ab ?_)
 refine dA rfl (wu 105 .u32 (.inr rfl) rfl rfl (ib hX (by decide))) ?_
 refine o1 ?_
 refine aa (ae (ae (ab ?_)))
 iterate 2 refine o1 ?_
 obtain ⟨t1,ht2,h⟩:=Option.bind_eq_some_iff.1 h
 refine opC (cX.v _ _ _ _ ht2) ?_
 refine o1 ?_
 refine aa ?_
 refine aL rfl (fun hb=>?_) (fun hb=>?_)
 ·skip
  obtain ⟨c3,h⟩:=tkT h hb
  have g4:=hb
  clear hb
  obtain ⟨q5,h⟩:=ao h
  refine ae (ab ?_)
  iterate 4 refine o1 ?_
  refine aa ?_
  obtain rfl:=Option.some.inj h
  exact bh ⟨.inl rfl,.two (.tmp rt) (.tmp rt) rfl rfl⟩
 ·skip
  obtain ⟨c6,h⟩:=tkF h hb
  have g7:=hb
  clear hb
  refine aN (ae (ae (ab ?_)))
  iterate 3 refine o1 ?_
  refine aa ?_
  refine aL rfl (fun hb=>?_) (fun hb=>?_)
  ·skip
   obtain ⟨c8,h⟩:=tkT h hb
   have g9:=hb
   clear hb
   obtain ⟨q10,h⟩:=ao h
   refine ae (ab ?_)
   iterate 4 refine o1 ?_
   obtain ⟨t11,ht12,h⟩:=Option.bind_eq_some_iff.1 h
   refine opC (di.v _ _ _ _ ht12) ?_
   iterate 5 refine o1 ?_
   refine aa (ae (ab ?_))
   iterate 3 refine o1 ?_
   obtain ⟨t13,ht14,h⟩:=Option.bind_eq_some_iff.1 h
   refine opC (dE.v _ _ _ ht14) ?_
   iterate 2 refine o1 ?_
   refine aa ?_
   obtain rfl:=Option.some.inj h
   exact bh ⟨.inl rfl,.two (.tmp rt) (.tmp rt) rfl rfl⟩
  ·skip
   obtain ⟨c15,h⟩:=tkF h hb
   have g16:=hb
   clear hb
   obtain ⟨q17,h⟩:=ao h
   obtain ⟨q18,h⟩:=ao h
   refine aN (ae (ab ?_))
   iterate 6 refine o1 ?_
   obtain ⟨t19,ht20,h⟩:=Option.bind_eq_some_iff.1 h
   refine opC (cQ.v _ _ ht20) ?_
   refine o1 ?_
   refine aa (ae (ab ?_))
   iterate 2 refine o1 ?_
   obtain ⟨t21,ht22,h⟩:=Option.bind_eq_some_iff.1 h
   refine opC (fk.v _ _ _ _ ht22) ?_
   obtain ⟨q23,h⟩:=ao h
   obtain ⟨q24,h⟩:=ao h
   replace h:=bsome h
   refine o1 ?_
   refine aa (ae (ab ?_))
   iterate 5 refine o1 ?_
   refine aa (ae (ab ?_))
   iterate 3 refine o1 ?_
   obtain ⟨t25,ht26,h⟩:=Option.bind_eq_some_iff.1 h
   refine opC (fk.v _ _ _ _ ht26) ?_
   obtain ⟨q27,h⟩:=ao h
   obtain ⟨q28,h⟩:=ao h
   obtain ⟨q29,h⟩:=ao h
   obtain ⟨q30,h⟩:=ao h
   obtain ⟨q31,h⟩:=ao h
   obtain ⟨q32,h⟩:=ao h
   refine o1 ?_
   refine aa (ae (ab ?_))
   iterate 3 refine o1 ?_
   refine aa (ae (ab ?_))
   iterate 6 refine o1 ?_
   refine aa (ae (fT ?_))
   iterate 14 refine s1 ?_
   refine lR (ae (ae (ab ?_)))
   iterate 6 refine o1 ?_
   refine aa (aK (cd ?_))
   refine cn (D:=List Int×Int×List Int×List Int×Int×Int×Int×Int×Unit) (fun d=>⟨look [(4,.own 64),(8,.int .i64 d.2.1),(9,.ints .u32 d.2.2.1),(10,.own 52),(11,.int .i64 d.2.2.2.2.1),(12,.int .u64 d.2.2.2.2.2.1),(13,.int .u64 d.2.2.2.2.2.2.1),(14,.int .i64 d.2.2.2.2.2.2.2.1)],look [(64,gi 105 .u32 d.1),(52,gi 105 .u32 d.2.2.2.1)]⟩) (fun K_ d=>P.aI.l0 K_ d.1 d.2.1 d.2.2.1 d.2.2.2.1 d.2.2.2.2.1 d.2.2.2.2.2.1 d.2.2.2.2.2.2.1 d.2.2.2.2.2.2.2.1=some r) ?_ _ (_,_,_,_,_,_,_,_,()) h (bm _ _ ⟨rfl,rfl,rfl,rfl,rfl,rfl,rfl,rfl,trivial⟩ ⟨rfl,rfl,trivial⟩ rfl)
   intro K33 ih34 d h
   obtain ⟨x4,x8,x9,x10,x11,x12,x13,x14,_⟩:=d
   dsimp only at h ⊢
   cases K33 with
   | zero=>exact absurd h (by simp [P.aI.l0])
   | succ m35 =>
    simp only [P.aI.l0] at h
    refine bK (ae (ae (ab ?_)))
    iterate 2 refine o1 ?_
    refine aa ?_
    refine aL rfl (fun hb=>?_) (fun hb=>?_)
    ·skip
     obtain ⟨c36,h⟩:=tkT h hb
     have g37:=hb
     clear hb
     obtain ⟨q38,h⟩:=ao h
     obtain ⟨q39,h⟩:=ao h
     obtain ⟨q40,h⟩:=ao h
     obtain ⟨q41,h⟩:=ao h
     obtain ⟨q42,h⟩:=iX h
     refine aN (ae (aK (ae (fT ?_))))
     iterate 18 refine s1 ?_
     refine lR (ae (fT ?_))
     iterate 8 refine s1 ?_
     refine lR (ae (aK (cd ?_)))
     refine cn (D:=List Int×Int×List Int×List Int×Int×Int×Int×Int×Int×Int×Unit) (fun d=>⟨look [(4,.own 64),(8,.int .i64 d.2.1),(9,.ints .u32 d.2.2.1),(10,.own 52),(11,.int .i64 d.2.2.2.2.1),(12,.int .u64 d.2.2.2.2.2.1),(13,.int .u64 d.2.2.2.2.2.2.1),(14,.int .i64 d.2.2.2.2.2.2.2.1),(16,.int .u64 d.2.2.2.2.2.2.2.2.1),(17,.int .u64 d.2.2.2.2.2.2.2.2.2.1)],look [(64,gi 105 .u32 d.1),(52,gi 105 .u32 d.2.2.2.1)]⟩) (fun K_ d=>P.aI.l1 K_ d.1 d.2.1 d.2.2.1 d.2.2.2.1 d.2.2.2.2.1 d.2.2.2.2.2.1 d.2.2.2.2.2.2.1 d.2.2.2.2.2.2.2.1 d.2.2.2.2.2.2.2.2.1 d.2.2.2.2.2.2.2.2.2.1=some r∧K_≤m35) ?_ _ (_,_,_,_,_,_,_,_,_,_,()) ⟨h,by omega⟩ (bm _ _ ⟨rfl,rfl,rfl,rfl,rfl,rfl,rfl,rfl,rfl,rfl,trivial⟩ ⟨rfl,rfl,trivial⟩ rfl)
     intro K43 ih44 d h
     obtain ⟨h,b46⟩:=h
     obtain ⟨x4,x8,x9,x10,x11,x12,x13,x14,x16,x17,_⟩:=d
     dsimp only at h b46 ⊢
     cases K43 with
     | zero=>exact absurd h (by simp [P.aI.l1])
     | succ m45 =>
      simp only [P.aI.l1] at h
      refine bK (ae (ae ?_))
      refine gR (D:=Nat×List Int×Int×List Int×List Int×Int×Int×Int×Int×Int×Int×Bool×Unit) (fun d=>⟨look [(4,.own 64),(8,.int .i64 d.2.2.1),(9,.ints .u32 d.2.2.2.1),(10,.own 52),(11,.int .i64 d.2.2.2.2.2.1),(12,.int .u64 d.2.2.2.2.2.2.1),(13,.int .u64 d.2.2.2.2.2.2.2.1),(14,.int .i64 d.2.2.2.2.2.2.2.2.1),(16,.int .u64 d.2.2.2.2.2.2.2.2.2.1),(17,.int .u64 d.2.2.2.2.2.2.2.2.2.2.1),(127,.bool d.2.2.2.2.2.2.2.2.2.2.2.1)],look [(64,gi 105 .u32 d.2.1),(52,gi 105 .u32 d.2.2.2.2.1)]⟩) (fun d=>P.aI.j2 d.1 d.2.1 d.2.2.1 d.2.2.2.1 d.2.2.2.2.1 d.2.2.2.2.2.1 d.2.2.2.2.2.2.1 d.2.2.2.2.2.2.2.1 d.2.2.2.2.2.2.2.2.1 d.2.2.2.2.2.2.2.2.2.1 d.2.2.2.2.2.2.2.2.2.2.1 d.2.2.2.2.2.2.2.2.2.2.2.1=some r∧d.1≤m45) ?_ ?_
      ·skip
       rintro ⟨kq47,x4,x8,x9,x10,x11,x12,x13,x14,x16,x17,x127,_⟩ ⟨h,b48⟩
       dsimp only at h b48 ⊢
       cases kq47 with
       | zero=>exact absurd h (by simp [P.aI.j2])
       | succ m49 =>
        simp only [P.aI.j2] at h
        refine aL rfl (fun hb=>?_) (fun hb=>?_)
        ·skip
         obtain ⟨c50,h⟩:=tkT h hb
         have g51:=hb
         clear hb
         refine aN (aK (ae (ab ?_)))
         iterate 3 refine o1 ?_
         refine aa (ae (ab ?_))
         iterate 4 refine o1 ?_
         refine aa (ae (ab ?_))
         iterate 2 refine o1 ?_
         refine aa ?_
         refine aL rfl (fun hb=>?_) (fun hb=>?_)
         ·skip
          obtain ⟨c52,h⟩:=tkT h hb
          have g53:=hb
          clear hb
          rcases m49 with _ | m54
          ·exact absurd h (by simp [P.aI.j3])
          simp only [P.aI.j3] at h
          obtain ⟨q55,h⟩:=ao h
          obtain ⟨q56,h⟩:=ao h
          obtain ⟨q57,h⟩:=ao h
          refine bM (ae (ae (ab ?_)))
          iterate 9 refine o1 ?_
          obtain ⟨t58,ht59,h⟩:=Option.bind_eq_some_iff.1 h
          have q60:=cS.len ht59 bd bd bd
          refine opCW (k:=52) (cS.v ht59 bd bd bd) rfl rfl ?_
          refine aa ?_
          refine aL rfl (fun hb=>?_) (fun hb=>?_)
          ·skip
           obtain ⟨c61,h⟩:=tkT h hb
           have g62:=hb
           clear hb
           refine ae (ab ?_)
           iterate 3 refine o1 ?_
           refine aa (ab ?_)
           iterate 8 refine o1 ?_
           obtain ⟨t63,ht64,h⟩:=Option.bind_eq_some_iff.1 h
           have q65:=df.len ht64 bd bd bd
           refine opCW (k:=52) (df.v ht64 bd bd bd) rfl rfl ?_
           obtain ⟨q66,h⟩:=ao h
           refine aa (ab ?_)
           iterate 6 refine o1 ?_
           refine aa (ab ?_)
           iterate 3 refine o1 ?_
           refine aa ?_
           exact aW (ih34 m54 (by omega) (_,_,_,_,_,_,_,_,()) h) ⟨rfl,rfl,rfl,rfl,rfl,rfl,rfl,rfl,trivial⟩ ⟨rfl,rfl,trivial⟩ rfl
          ·skip
           obtain ⟨c67,h⟩:=tkF h hb
           have g68:=hb
           clear hb
           obtain ⟨q69,h⟩:=ao h
           refine aN (ab ?_)
           iterate 6 refine o1 ?_
           refine aa (ab ?_)
           iterate 3 refine o1 ?_
           refine aa ?_
           exact aW (ih34 m54 (by omega) (_,_,_,_,_,_,_,_,()) h) ⟨rfl,rfl,rfl,rfl,rfl,rfl,rfl,rfl,trivial⟩ ⟨rfl,rfl,trivial⟩ rfl
         ·skip
          obtain ⟨c70,h⟩:=tkF h hb
          have g71:=hb
          clear hb
          refine aN ?_
          exact aW (ih44 m49 (by omega) (_,_,_,_,_,_,_,_,_,_,()) ⟨h,by omega⟩) ⟨rfl,rfl,rfl,rfl,rfl,rfl,rfl,rfl,rfl,rfl,trivial⟩ ⟨rfl,rfl,trivial⟩ rfl
        ·skip
         obtain ⟨c72,h⟩:=tkF h hb
         have g73:=hb
         clear hb
         rcases m49 with _ | m74
         ·exact absurd h (by simp [P.aI.j3])
         simp only [P.aI.j3] at h
         obtain ⟨q75,h⟩:=ao h
         obtain ⟨q76,h⟩:=ao h
         obtain ⟨q77,h⟩:=ao h
         refine bM (ae (ae (ab ?_)))
         iterate 9 refine o1 ?_
         obtain ⟨t78,ht79,h⟩:=Option.bind_eq_some_iff.1 h
         have q80:=cS.len ht79 bd bd bd
         refine opCW (k:=52) (cS.v ht79 bd bd bd) rfl rfl ?_
         refine aa ?_
         refine aL rfl (fun hb=>?_) (fun hb=>?_)
         ·skip
          obtain ⟨c81,h⟩:=tkT h hb
          have g82:=hb
          clear hb
          refine ae (ab ?_)
          iterate 3 refine o1 ?_
          refine aa (ab ?_)
          iterate 8 refine o1 ?_
          obtain ⟨t83,ht84,h⟩:=Option.bind_eq_some_iff.1 h
          have q85:=df.len ht84 bd bd bd
          refine opCW (k:=52) (df.v ht84 bd bd bd) rfl rfl ?_
          obtain ⟨q86,h⟩:=ao h
          refine aa (ab ?_)
          iterate 6 refine o1 ?_
          refine aa (ab ?_)
          iterate 3 refine o1 ?_
          refine aa ?_
          exact aW (ih34 m74 (by omega) (_,_,_,_,_,_,_,_,()) h) ⟨rfl,rfl,rfl,rfl,rfl,rfl,rfl,rfl,trivial⟩ ⟨rfl,rfl,trivial⟩ rfl
         ·skip
          obtain ⟨c87,h⟩:=tkF h hb
          have g88:=hb
          clear hb
          obtain ⟨q89,h⟩:=ao h
          refine aN (ab ?_)
          iterate 6 refine o1 ?_
          refine aa (ab ?_)
          iterate 3 refine o1 ?_
          refine aa ?_
          exact aW (ih34 m74 (by omega) (_,_,_,_,_,_,_,_,()) h) ⟨rfl,rfl,rfl,rfl,rfl,rfl,rfl,rfl,trivial⟩ ⟨rfl,rfl,trivial⟩ rfl
      ·skip
       refine ab ?_
       iterate 3 refine o1 ?_
       refine og rfl rfl rfl rfl (fun hb=>?_) (fun hb=>?_)
       ·skip
        obtain ⟨c90,h⟩:=tkF h hb
        have g91:=hb
        clear hb
        obtain ⟨q92,h⟩:=ao h
        obtain ⟨q93,h⟩:=ao h
        iterate 15 refine oT ?_
        refine o1 ?_
        refine aa ?_
        exact ⟨(m45,_,_,_,_,_,_,_,_,_,_,_,()),⟨h,by omega⟩,bm _ _ ⟨rfl,rfl,rfl,rfl,rfl,rfl,rfl,rfl,rfl,rfl,rfl,trivial⟩ ⟨rfl,rfl,trivial⟩ rfl⟩
       ·skip
        obtain ⟨c94,h⟩:=tkT h hb
        have g95:=hb
        clear hb
        iterate 15 refine opS ?_
        refine o1 ?_
        refine aa ?_
        exact ⟨(m45,_,_,_,_,_,_,_,_,_,_,_,()),⟨h,by omega⟩,bm _ _ ⟨rfl,rfl,rfl,rfl,rfl,rfl,rfl,rfl,rfl,rfl,rfl,trivial⟩ ⟨rfl,rfl,trivial⟩ rfl⟩
    ·skip
     obtain ⟨c96,h⟩:=tkF h hb
     have g97:=hb
     clear hb
     refine bM (ae ?_)
     refine eJ (dz (k:=64) rfl) ?_
     refine eJ (dz (k:=52) rfl) ?_
     refine ab ?_
     refine o1 ?_
     obtain ⟨t98,ht99,h⟩:=Option.bind_eq_some_iff.1 h
     refine opC (cJ.v _ _ _ ht99) ?_
     refine o1 ?_
     obtain ⟨t100,ht101,h⟩:=Option.bind_eq_some_iff.1 h
     refine opC (cJ.v _ _ _ ht101) ?_
     refine o1 ?_
     obtain ⟨t102,ht103,h⟩:=Option.bind_eq_some_iff.1 h
     refine opC (fe.v _ _ _ _ ht103) ?_
     iterate 2 refine o1 ?_
     refine aa ?_
     obtain rfl:=Option.some.inj h
     exact bh ⟨.inl rfl,.two (.tmp rt) (.tmp rt) rfl rfl⟩
instance:FN Tryz.prog 122:=⟨⟨_,Tryz.func122,by decide,by simp [Tryz.f122]⟩⟩
set_option maxRecDepth 100000 in
set_option maxHeartbeats 4000000 in
theorem fj.v (l0:List Int) (r:Int×Bool) (h:P.fj.f l0=some r):Fn Tryz.prog 122 [.ints .u32 l0] (.tup [.int .u64 r.1,.bool r.2]):=by
 refine bY Tryz.func122 rfl (Nat.le_of_ble_eq_true rfl) ?_
 intro X hX
 unfold P.fj.f at h
 refine ae (ab ?_)
 iterate 2 refine o1 ?_
 refine aa (ae (ae (ab ?_)))
 iterate 2 refine o1 ?_
 refine aa (aK (ae (ab ?_)))
 iterate 2 refine o1 ?_
 refine aa ?_
 refine aL rfl (fun hb=>?_) (fun hb=>?_)
 ·skip
  obtain ⟨c1,h⟩:=tkT h hb
  have g2:=hb
  clear hb
  refine ae (ab ?_)
  iterate 2 refine o1 ?_
  refine aa ?_
  obtain rfl:=Option.some.inj h
  exact bh ⟨.inl rfl,.two (.tmp rt) (.tmp rt) rfl rfl⟩
 ·skip
  obtain ⟨c3,h⟩:=tkF h hb
  have g4:=hb
  clear hb
  refine ae (ab ?_)
  iterate 2 refine o1 ?_
  refine aa ?_
  refine aL rfl (fun hb=>?_) (fun hb=>?_)
  ·skip
   obtain ⟨c5,h⟩:=tkT h hb
   have g6:=hb
   clear hb
   obtain ⟨q7,h⟩:=ao h
   refine ae (ab ?_)
   iterate 6 refine o1 ?_
   refine aa ?_
   obtain rfl:=Option.some.inj h
   exact bh ⟨.inl rfl,.two (.tmp rt) (.tmp rt) rfl rfl⟩
  ·skip
   obtain ⟨c8,h⟩:=tkF h hb
   have g9:=hb
   clear hb
   refine ae (ab ?_)
   iterate 2 refine o1 ?_
   refine aa ?_
   refine aL rfl (fun hb=>?_) (fun hb=>?_)
   ·skip
    obtain ⟨c10,h⟩:=tkT h hb
    have g11:=hb
    clear hb
    obtain ⟨q12,h⟩:=ao h
    obtain ⟨q13,h⟩:=ao h
    refine ae (fT ?_)
    iterate 12 refine s1 ?_
    refine lR ?_
    obtain rfl:=Option.some.inj h
    exact bh ⟨.inl rfl,.two (.tmp rt) (.tmp rt) rfl rfl⟩
   ·skip
    obtain ⟨c14,h⟩:=tkF h hb
    have g15:=hb
    clear hb
    refine aN (ae (ab ?_))
    iterate 2 refine o1 ?_
    refine aa ?_
    obtain rfl:=Option.some.inj h
    exact bh ⟨.inl rfl,.two (.tmp rt) (.tmp rt) rfl rfl⟩
instance:FN Tryz.prog 133:=⟨⟨_,Tryz.func133,by decide,by simp [Tryz.f133]⟩⟩
set_option maxRecDepth 100000 in
set_option maxHeartbeats 4000000 in
theorem gV.v (l0:List Int) (r:Int) (h:P.gV.f l0=some r):Fn Tryz.prog 133 [.ints .u32 l0] (.int .i64 r):=by
 refine bY Tryz.func133 rfl (Nat.le_of_ble_eq_true rfl) ?_
 intro X hX
 unfold P.gV.f at h
 refine ae (ab ?_)
 refine o1 ?_
 refine aa (ae (ae (ab ?_)))
 iterate 3 refine o1 ?_
 refine aa ?_
 refine aL rfl (fun hb=>?_) (fun hb=>?_)
 ·skip
  obtain ⟨c1,h⟩:=tkT h hb
  have g2:=hb
  clear hb
  refine ae (ab ?_)
  refine o1 ?_
  refine aa ?_
  obtain rfl:=Option.some.inj h
  exact bh ⟨.inl rfl,.one (.tmp rt) rfl⟩
 ·skip
  obtain ⟨c3,h⟩:=tkF h hb
  have g4:=hb
  clear hb
  obtain ⟨q5,h⟩:=ao h
  obtain ⟨q6,h⟩:=ao h
  refine aN (ae (ab ?_))
  iterate 9 refine o1 ?_
  obtain ⟨t7,ht8,h⟩:=Option.bind_eq_some_iff.1 h
  refine opC (cQ.v _ _ ht8) ?_
  iterate 2 refine o1 ?_
  refine aa ?_
  obtain rfl:=Option.some.inj h
  exact bh ⟨.inl rfl,.one (.tmp rt) rfl⟩
instance:FN Tryz.prog 90:=⟨⟨_,Tryz.func90,by decide,by simp [Tryz.f90]⟩⟩
set_option maxRecDepth 100000 in
set_option maxHeartbeats 4000000 in
theorem bC.v (k:Nat) (l0:List Int) (l1:List Int) (r:List Int) (h:P.bC.f k l0 l1=some r):Fn Tryz.prog 90 [.ints .u32 l0,.ints .u32 l1] (.ints .u32 r):=by
 refine bY Tryz.func90 rfl (Nat.le_of_ble_eq_true rfl) ?_
 intro X hX
 unfold P.bC.f at h
 refine ae (ab ?_)
 refine o1 ?_
 refine aa (ae (ae ?_))
 refine gR (D:=Nat×List Int×List Int×Bool×Unit) (fun d=>⟨look [(0,.ints .u32 d.2.1),(1,.ints .u32 d.2.2.1),(18,.bool d.2.2.2.1)],look []⟩) (fun d=>P.bC.j0 d.1 d.2.1 d.2.2.1 d.2.2.2.1=some r∧d.1≤k) ?_ ?_
 ·skip
  rintro ⟨kq1,x0,x1,x18,_⟩ ⟨h,b2⟩
  dsimp only at h b2 ⊢
  cases kq1 with
  | zero=>exact absurd h (by simp [P.bC.j0])
  | succ m3 =>
   simp only [P.bC.j0] at h
   refine aL rfl (fun hb=>?_) (fun hb=>?_)
   ·skip
    obtain ⟨c4,h⟩:=tkT h hb
    have g5:=hb
    clear hb
    refine ae (ab ?_)
    refine o1 ?_
    refine aa ?_
    obtain rfl:=Option.some.inj h
    exact bh ⟨.inl rfl,.one (.tmp rt) rfl⟩
   ·skip
    obtain ⟨c6,h⟩:=tkF h hb
    have g7:=hb
    clear hb
    obtain ⟨q8,h⟩:=ao h
    obtain ⟨q9,h⟩:=ao h
    refine aN (ae (ab ?_))
    iterate 7 refine o1 ?_
    refine aa (ae (ae (ab ?_)))
    iterate 3 refine o1 ?_
    refine aa (aK (cd ?_))
    refine cn (D:=List Int×List Int×List Int×Int×Int×Unit) (fun d=>⟨look [(1,.ints .u32 d.1),(5,.own 24),(25,.ints .u32 d.2.2.1),(26,.int .i64 d.2.2.2.1),(27,.int .i64 d.2.2.2.2.1)],look [(24,gi 105 .u32 d.2.1)]⟩) (fun K_ d=>P.bC.l0 K_ d.1 d.2.1 d.2.2.1 d.2.2.2.1 d.2.2.2.2.1=some r∧K_≤m3) ?_ _ (_,_,_,_,_,()) ⟨h,by omega⟩ (bm _ _ ⟨rfl,rfl,rfl,rfl,rfl,trivial⟩ ⟨rfl,trivial⟩ rfl)
    intro K10 ih11 d h
    obtain ⟨h,b13⟩:=h
    obtain ⟨x1,x5,x25,x26,x27,_⟩:=d
    dsimp only at h b13 ⊢
    cases K10 with
    | zero=>exact absurd h (by simp [P.bC.l0])
    | succ m12 =>
     simp only [P.bC.l0] at h
     refine bK (ae (ab ?_))
     refine o1 ?_
     refine aa (ae ?_)
     refine aL rfl (fun hb=>?_) (fun hb=>?_)
     ·skip
      obtain ⟨c14,h⟩:=tkT h hb
      have g15:=hb
      clear hb
      obtain ⟨q16,h⟩:=ao h
      obtain ⟨q17,h⟩:=ao h
      refine aN (ae (aK (ae (ab ?_))))
      iterate 5 refine o1 ?_
      refine aa (ae (ab ?_))
      refine o1 ?_
      refine aa (ae (ae (ab ?_)))
      iterate 3 refine o1 ?_
      refine aa (aK (cd ?_))
      refine cn (D:=List Int×List Int×Int×Int×Int×List Int×Int×Int×List Int×Int×Int×Unit) (fun d=>⟨look [(1,.ints .u32 d.1),(5,.own 24),(6,.int .i64 d.2.2.1),(7,.int .u32 d.2.2.2.1),(8,.int .u64 d.2.2.2.2.1),(25,.ints .u32 d.2.2.2.2.2.1),(26,.int .i64 d.2.2.2.2.2.2.1),(27,.int .i64 d.2.2.2.2.2.2.2.1),(32,.ints .u32 d.2.2.2.2.2.2.2.2.1),(33,.int .i64 d.2.2.2.2.2.2.2.2.2.1),(34,.int .i64 d.2.2.2.2.2.2.2.2.2.2.1)],look [(24,gi 105 .u32 d.2.1)]⟩) (fun K_ d=>P.bC.l1 K_ d.1 d.2.1 d.2.2.1 d.2.2.2.1 d.2.2.2.2.1 d.2.2.2.2.2.1 d.2.2.2.2.2.2.1 d.2.2.2.2.2.2.2.1 d.2.2.2.2.2.2.2.2.1 d.2.2.2.2.2.2.2.2.2.1 d.2.2.2.2.2.2.2.2.2.2.1=some r∧K_≤m12) ?_ _ (_,_,_,_,_,_,_,_,_,_,_,()) ⟨h,by omega⟩ (bm _ _ ⟨rfl,rfl,rfl,rfl,rfl,rfl,rfl,rfl,rfl,rfl,rfl,trivial⟩ ⟨rfl,trivial⟩ rfl)
      intro K18 ih19 d h
      obtain ⟨h,b21⟩:=h
      obtain ⟨x1,x5,x6,x7,x8,x25,x26,x27,x32,x33,x34,_⟩:=d
      dsimp only at h b21 ⊢
      cases K18 with
      | zero=>exact absurd h (by simp [P.bC.l1])
      | succ m20 =>
       simp only [P.bC.l1] at h
       refine bK (ae (ab ?_))
       refine o1 ?_
       refine aa (ae ?_)
       refine aL rfl (fun hb=>?_) (fun hb=>?_)
       ·skip
        obtain ⟨c22,h⟩:=tkT h hb
        have g23:=hb
        clear hb
        obtain ⟨q24,h⟩:=ao h
        obtain ⟨q25,h⟩:=ao h
        obtain ⟨q26,h⟩:=ao h
        obtain ⟨q27,h⟩:=ao h
        refine aN (ae (aK (ae (ab ?_))))
        iterate 5 refine o1 ?_
        refine aa (ae (ab ?_))
        iterate 16 refine o1 ?_
        refine aa (ae (ab ?_))
        iterate 8 refine o1 ?_
        refine aa (ab ?_)
        iterate 3 refine o1 ?_
        refine aa (ab ?_)
        iterate 2 refine o1 ?_
        refine aa ?_
        exact aW (ih19 m20 (by omega) (_,_,_,_,_,_,_,_,_,_,_,()) ⟨h,by omega⟩) ⟨rfl,rfl,rfl,rfl,rfl,rfl,rfl,rfl,rfl,rfl,rfl,trivial⟩ ⟨rfl,trivial⟩ rfl
       ·skip
        obtain ⟨c28,h⟩:=tkF h hb
        have g29:=hb
        clear hb
        obtain ⟨q30,h⟩:=ao h
        obtain ⟨q31,h⟩:=ao h
        refine bM (ab ?_)
        iterate 9 refine o1 ?_
        refine aa (ab ?_)
        iterate 2 refine o1 ?_
        refine aa ?_
        exact aW (ih11 m20 (by omega) (_,_,_,_,_,()) ⟨h,by omega⟩) ⟨rfl,rfl,rfl,rfl,rfl,trivial⟩ ⟨rfl,trivial⟩ rfl
     ·skip
      obtain ⟨c32,h⟩:=tkF h hb
      have g33:=hb
      clear hb
      refine bM (ae ?_)
      refine eJ (dz (k:=24) rfl) ?_
      refine ab ?_
      refine o1 ?_
      obtain ⟨t34,ht35,h⟩:=Option.bind_eq_some_iff.1 h
      refine opC (cJ.v _ _ _ ht35) ?_
      refine o1 ?_
      refine aa ?_
      obtain rfl:=Option.some.inj h
      exact bh ⟨.inl rfl,.one (.tmp rt) rfl⟩
 ·skip
  refine ab ?_
  iterate 4 refine o1 ?_
  refine og rfl rfl rfl rfl (fun hb=>?_) (fun hb=>?_)
  ·skip
   obtain ⟨c36,h⟩:=tkF h hb
   have g37:=hb
   clear hb
   iterate 3 refine oT ?_
   refine o1 ?_
   refine aa ?_
   exact ⟨(k,_,_,_,()),⟨h,by omega⟩,bm _ _ ⟨rfl,rfl,rfl,trivial⟩ trivial rfl⟩
  ·skip
   obtain ⟨c38,h⟩:=tkT h hb
   have g39:=hb
   clear hb
   iterate 3 refine opS ?_
   refine o1 ?_
   refine aa ?_
   exact ⟨(k,_,_,_,()),⟨h,by omega⟩,bm _ _ ⟨rfl,rfl,rfl,trivial⟩ trivial rfl⟩
instance:FN Tryz.prog 93:=⟨⟨_,Tryz.func93,by decide,by simp [Tryz.f93]⟩⟩
set_option maxRecDepth 100000 in
set_option maxHeartbeats 4000000 in
theorem dI.v (k:Nat) (l0:List Int) (l1:List Int) (r:List Int) (h:P.dI.f k l0 l1=some r):Fn Tryz.prog 93 [.ints .u32 l0,.ints .u32 l1] (.ints .u32 r):=by
 refine bY Tryz.func93 rfl (Nat.le_of_ble_eq_true rfl) ?_
 intro X hX
 unfold P.dI.f at h
 obtain ⟨q1,h⟩:=ao h
 obtain ⟨q2,h⟩:=ao h
 refine ae (ab ?_)
 refine o1 ?_
 refine aa (ae (ab ?_))
 iterate 4 refine o1 ?_
 refine aa (ae (ab ?_))
 refine o1 ?_
 refine aa (ae (ae (ab ?_)))
 iterate 3 refine o1 ?_
 refine aa (aK (cd ?_))
 refine cn (D:=List Int×List Int×Int×List Int×Int×Int×Unit) (fun d=>⟨look [(1,.ints .u32 d.1),(5,.own 12),(6,.int .u64 d.2.2.1),(13,.ints .u32 d.2.2.2.1),(14,.int .i64 d.2.2.2.2.1),(15,.int .i64 d.2.2.2.2.2.1)],look [(12,gi 105 .u32 d.2.1)]⟩) (fun K_ d=>P.dI.l0 K_ d.1 d.2.1 d.2.2.1 d.2.2.2.1 d.2.2.2.2.1 d.2.2.2.2.2.1=some r) ?_ _ (_,_,_,_,_,_,()) h (bm _ _ ⟨rfl,rfl,rfl,rfl,rfl,rfl,trivial⟩ ⟨rfl,trivial⟩ rfl)
 intro K3 ih4 d h
 obtain ⟨x1,x5,x6,x13,x14,x15,_⟩:=d
 dsimp only at h ⊢
 cases K3 with
 | zero=>exact absurd h (by simp [P.dI.l0])
 | succ m5 =>
  simp only [P.dI.l0] at h
  refine bK (ae (ab ?_))
  refine o1 ?_
  refine aa (ae ?_)
  refine aL rfl (fun hb=>?_) (fun hb=>?_)
  ·skip
   obtain ⟨c6,h⟩:=tkT h hb
   have g7:=hb
   clear hb
   obtain ⟨q8,h⟩:=ao h
   obtain ⟨q9,h⟩:=ao h
   refine aN (ae (aK (ae (ab ?_))))
   iterate 5 refine o1 ?_
   refine aa (ae (ab ?_))
   iterate 5 refine o1 ?_
   refine aa (ae (ae (ab ?_)))
   iterate 4 refine o1 ?_
   refine aa ?_
   refine aL rfl (fun hb=>?_) (fun hb=>?_)
   ·skip
    obtain ⟨c10,h⟩:=tkT h hb
    have g11:=hb
    clear hb
    obtain ⟨q12,h⟩:=ao h
    refine ab ?_
    iterate 8 refine o1 ?_
    refine aa (ae (ab ?_))
    iterate 6 refine o1 ?_
    refine aa (ab ?_)
    iterate 3 refine o1 ?_
    refine aa (ab ?_)
    iterate 2 refine o1 ?_
    refine aa ?_
    exact aW (ih4 m5 (by omega) (_,_,_,_,_,_,()) h) ⟨rfl,rfl,rfl,rfl,rfl,rfl,trivial⟩ ⟨rfl,trivial⟩ rfl
   ·skip
    obtain ⟨c13,h⟩:=tkF h hb
    have g14:=hb
    clear hb
    obtain ⟨q15,h⟩:=ao h
    refine aN (ae (ab ?_))
    iterate 6 refine o1 ?_
    refine aa (ab ?_)
    iterate 3 refine o1 ?_
    refine aa (ab ?_)
    iterate 2 refine o1 ?_
    refine aa ?_
    exact aW (ih4 m5 (by omega) (_,_,_,_,_,_,()) h) ⟨rfl,rfl,rfl,rfl,rfl,rfl,trivial⟩ ⟨rfl,trivial⟩ rfl
  ·skip
   obtain ⟨c16,h⟩:=tkF h hb
   have g17:=hb
   clear hb
   refine bM (ae ?_)
   refine eJ (dz (k:=12) rfl) ?_
   refine ab ?_
   refine o1 ?_
   obtain ⟨t18,ht19,h⟩:=Option.bind_eq_some_iff.1 h
   refine opC (cJ.v _ _ _ ht19) ?_
   refine o1 ?_
   refine aa ?_
   obtain rfl:=Option.some.inj h
   exact bh ⟨.inl rfl,.one (.tmp rt) rfl⟩
instance:FN Tryz.prog 134:=⟨⟨_,Tryz.func134,by decide,by simp [Tryz.f134]⟩⟩
set_option maxRecDepth 100000 in
set_option maxHeartbeats 4000000 in
theorem cG.v (k:Nat) (l0:List Int) (l1:List Int) (a2:Int) (a3:Int) (r:List Int) (h:P.cG.f k l0 l1 a2 a3=some r):Fn Tryz.prog 134 [.ints .u32 l0,.ints .u32 l1,.int .i64 a2,.int .i64 a3] (.ints .u32 r):=by
 refine bY Tryz.func134 rfl (Nat.le_of_ble_eq_true rfl) ?_
 intro X hX
 unfold P.cG.f at h
 refine ae (ab ?_)
 refine o1 ?_
 refine aa (ae (ae ?_))
 refine gR (D:=Nat×List Int×List Int×Int×Int×Bool×Unit) (fun d=>⟨look [(0,.ints .u32 d.2.1),(1,.ints .u32 d.2.2.1),(2,.int .i64 d.2.2.2.1),(3,.int .i64 d.2.2.2.2.1),(14,.bool d.2.2.2.2.2.1)],look []⟩) (fun d=>P.cG.j0 d.1 d.2.1 d.2.2.1 d.2.2.2.1 d.2.2.2.2.1 d.2.2.2.2.2.1=some r∧d.1≤k) ?_ ?_
 ·skip
  rintro ⟨kq1,x0,x1,x2,x3,x14,_⟩ ⟨h,b2⟩
  dsimp only at h b2 ⊢
  cases kq1 with
  | zero=>exact absurd h (by simp [P.cG.j0])
  | succ m3 =>
   simp only [P.cG.j0] at h
   refine aL rfl (fun hb=>?_) (fun hb=>?_)
   ·skip
    obtain ⟨c4,h⟩:=tkT h hb
    have g5:=hb
    clear hb
    refine ae (ab ?_)
    iterate 3 refine o1 ?_
    obtain ⟨t6,ht7,h⟩:=Option.bind_eq_some_iff.1 h
    refine opC (dE.v _ _ _ ht7) ?_
    obtain ⟨t8,ht9,h⟩:=Option.bind_eq_some_iff.1 h
    refine opC (bC.v _ _ _ _ ht9) ?_
    iterate 4 refine o1 ?_
    obtain ⟨t10,ht11,h⟩:=Option.bind_eq_some_iff.1 h
    refine opC (dE.v _ _ _ ht11) ?_
    obtain ⟨t12,ht13,h⟩:=Option.bind_eq_some_iff.1 h
    refine opC (bC.v _ _ _ _ ht13) ?_
    obtain ⟨t14,ht15,h⟩:=Option.bind_eq_some_iff.1 h
    refine opC (dI.v _ _ _ _ ht15) ?_
    refine o1 ?_
    refine aa ?_
    obtain rfl:=Option.some.inj h
    exact bh ⟨.inl rfl,.one (.tmp rt) rfl⟩
   ·skip
    obtain ⟨c16,h⟩:=tkF h hb
    have g17:=hb
    clear hb
    refine aN (ae (ab ?_))
    iterate 3 refine o1 ?_
    obtain ⟨t18,ht19,h⟩:=Option.bind_eq_some_iff.1 h
    refine opC (dE.v _ _ _ ht19) ?_
    obtain ⟨t20,ht21,h⟩:=Option.bind_eq_some_iff.1 h
    refine opC (bC.v _ _ _ _ ht21) ?_
    iterate 4 refine o1 ?_
    obtain ⟨t22,ht23,h⟩:=Option.bind_eq_some_iff.1 h
    refine opC (dE.v _ _ _ ht23) ?_
    obtain ⟨t24,ht25,h⟩:=Option.bind_eq_some_iff.1 h
    refine opC (bC.v _ _ _ _ ht25) ?_
    obtain ⟨t26,ht27,h⟩:=Option.bind_eq_some_iff.1 h
    refine opC (dI.v _ _ _ _ ht27) ?_
    refine o1 ?_
    refine aa ?_
    obtain rfl:=Option.some.inj h
    exact bh ⟨.inl rfl,.one (.tmp rt) rfl⟩
 ·skip
  refine ab ?_
  iterate 3 refine o1 ?_
  refine og rfl rfl rfl rfl (fun hb=>?_) (fun hb=>?_)
  ·skip
   obtain ⟨c28,h⟩:=tkF h hb
   have g29:=hb
   clear hb
   iterate 2 refine oT ?_
   refine o1 ?_
   refine aa ?_
   exact ⟨(k,_,_,_,_,_,()),⟨h,by omega⟩,bm _ _ ⟨rfl,rfl,rfl,rfl,rfl,trivial⟩ trivial rfl⟩
  ·skip
   obtain ⟨c30,h⟩:=tkT h hb
   have g31:=hb
   clear hb
   iterate 2 refine opS ?_
   refine o1 ?_
   refine aa ?_
   exact ⟨(k,_,_,_,_,_,()),⟨h,by omega⟩,bm _ _ ⟨rfl,rfl,rfl,rfl,rfl,trivial⟩ trivial rfl⟩
instance:FN Tryz.prog 121:=⟨⟨_,Tryz.func121,by decide,by simp [Tryz.f121]⟩⟩
set_option maxRecDepth 100000 in
set_option maxHeartbeats 4000000 in
theorem bk.v (k:Nat) (l0:List Int) (l1:List Int) (r:List Int×List Int×Bool) (h:P.bk.f k l0 l1=some r):Fn Tryz.prog 121 [.ints .u32 l0,.ints .u32 l1] (.tup [.ints .u32 r.1,.ints .u32 r.2.1,.bool r.2.2]):=by
 refine bY Tryz.func121 rfl (Nat.le_of_ble_eq_true rfl) ?_
 intro X hX
 unfold P.bk.f at h
 refine ae (ab ?_)
 iterate 3 refine o1 ?_
 refine aa (ae (ab ?_))
 refine o1 ?_
 obtain ⟨t1,ht2,h⟩:=Option.bind_eq_some_iff.1 h
 refine opC (gV.v _ _ ht2) ?_
 refine o1 ?_
 refine aa (ae (ae (ab ?_)))
 refine o1 ?_
 obtain ⟨t3,ht4,h⟩:=Option.bind_eq_some_iff.1 h
 refine opC (gV.v _ _ ht4) ?_
 iterate 3 refine o1 ?_
 refine aa ?_
 refine aL rfl (fun hb=>?_) (fun hb=>?_)
 ·skip
  obtain ⟨c5,h⟩:=tkT h hb
  have g6:=hb
  clear hb
  refine ae (ab ?_)
  iterate 3 refine o1 ?_
  refine aa ?_
  obtain rfl:=Option.some.inj h
  exact bh ⟨.inl rfl,.three (.tmp rt) (.tmp rt) (.tmp rt) rfl rfl rfl⟩
 ·skip
  obtain ⟨c7,h⟩:=tkF h hb
  have g8:=hb
  clear hb
  refine aN (ae (ab ?_))
  iterate 3 refine o1 ?_
  obtain ⟨t9,ht10,h⟩:=Option.bind_eq_some_iff.1 h
  refine opC (fe.v _ _ _ _ ht10) ?_
  obtain ⟨t11,ht12,h⟩:=Option.bind_eq_some_iff.1 h
  refine opC (fj.v _ _ ht12) ?_
  iterate 5 refine o1 ?_
  refine aa (ae (ab ?_))
  iterate 3 refine o1 ?_
  obtain ⟨t13,ht14,h⟩:=Option.bind_eq_some_iff.1 h
  refine opC (fe.v _ _ _ _ ht14) ?_
  obtain ⟨t15,ht16,h⟩:=Option.bind_eq_some_iff.1 h
  refine opC (fj.v _ _ ht16) ?_
  iterate 5 refine o1 ?_
  refine aa (ae (ab ?_))
  iterate 4 refine o1 ?_
  refine aa (ae (ab ?_))
  iterate 6 refine o1 ?_
  refine aa (ae (aK (cd ?_)))
  refine cn (D:=List Int×List Int×Int×Int×Int×Int×Int×Int×Unit) (fun d=>⟨look [(0,.ints .u32 d.1),(1,.ints .u32 d.2.1),(12,.int .i64 d.2.2.1),(13,.int .i64 d.2.2.2.1),(14,.int .i64 d.2.2.2.2.1),(15,.int .i64 d.2.2.2.2.2.1),(16,.int .i64 d.2.2.2.2.2.2.1),(17,.int .i64 d.2.2.2.2.2.2.2.1)],look []⟩) (fun K_ d=>P.bk.l0 K_ d.1 d.2.1 d.2.2.1 d.2.2.2.1 d.2.2.2.2.1 d.2.2.2.2.2.1 d.2.2.2.2.2.2.1 d.2.2.2.2.2.2.2.1=some r) ?_ _ (_,_,_,_,_,_,_,_,()) h (bm _ _ ⟨rfl,rfl,rfl,rfl,rfl,rfl,rfl,rfl,trivial⟩ trivial rfl)
  intro K17 ih18 d h
  obtain ⟨x0,x1,x12,x13,x14,x15,x16,x17,_⟩:=d
  dsimp only at h ⊢
  cases K17 with
  | zero=>exact absurd h (by simp [P.bk.l0])
  | succ m19 =>
   simp only [P.bk.l0] at h
   refine bK (ae (ae ?_))
   refine gR (D:=Nat×List Int×List Int×Int×Int×Int×Int×Int×Int×Bool×Unit) (fun d=>⟨look [(0,.ints .u32 d.2.1),(1,.ints .u32 d.2.2.1),(12,.int .i64 d.2.2.2.1),(13,.int .i64 d.2.2.2.2.1),(14,.int .i64 d.2.2.2.2.2.1),(15,.int .i64 d.2.2.2.2.2.2.1),(16,.int .i64 d.2.2.2.2.2.2.2.1),(17,.int .i64 d.2.2.2.2.2.2.2.2.1),(55,.bool d.2.2.2.2.2.2.2.2.2.1)],look []⟩) (fun d=>P.bk.j1 d.1 d.2.1 d.2.2.1 d.2.2.2.1 d.2.2.2.2.1 d.2.2.2.2.2.1 d.2.2.2.2.2.2.1 d.2.2.2.2.2.2.2.1 d.2.2.2.2.2.2.2.2.1 d.2.2.2.2.2.2.2.2.2.1=some r∧d.1≤m19) ?_ ?_
   ·skip
    rintro ⟨kq20,x0,x1,x12,x13,x14,x15,x16,x17,x55,_⟩ ⟨h,b21⟩
    dsimp only at h b21 ⊢
    cases kq20 with
    | zero=>exact absurd h (by simp [P.bk.j1])
    | succ m22 =>
     simp only [P.bk.j1] at h
     refine aL rfl (fun hb=>?_) (fun hb=>?_)
     ·skip
      obtain ⟨c23,h⟩:=tkT h hb
      have g24:=hb
      clear hb
      obtain ⟨q25,h⟩:=iX h
      obtain ⟨q26,h⟩:=iX h
      refine aN (aK (ae (ab ?_)))
      iterate 8 refine o1 ?_
      refine aa (ae (ae (ab ?_)))
      iterate 9 refine o1 ?_
      refine aa ?_
      refine aL rfl (fun hb=>?_) (fun hb=>?_)
      ·skip
       obtain ⟨c27,h⟩:=tkF h hb
       have g28:=hb
       clear hb
       rcases m22 with _ | m29
       ·exact absurd h (by simp [P.bk.j2])
       simp only [P.bk.j2] at h
       refine bM (ae (ae (ab ?_)))
       iterate 2 refine o1 ?_
       refine aa ?_
       refine aL rfl (fun hb=>?_) (fun hb=>?_)
       ·skip
        obtain ⟨c30,h⟩:=tkT h hb
        have g31:=hb
        clear hb
        refine ae (ab ?_)
        iterate 3 refine o1 ?_
        refine aa ?_
        obtain rfl:=Option.some.inj h
        exact bh ⟨.inl rfl,.three (.tmp rt) (.tmp rt) (.tmp rt) rfl rfl rfl⟩
       ·skip
        obtain ⟨c32,h⟩:=tkF h hb
        have g33:=hb
        clear hb
        refine aN (ae (ab ?_))
        iterate 4 refine o1 ?_
        obtain ⟨t34,ht35,h⟩:=Option.bind_eq_some_iff.1 h
        refine opC (cG.v _ _ _ _ _ _ ht35) ?_
        iterate 4 refine o1 ?_
        obtain ⟨t36,ht37,h⟩:=Option.bind_eq_some_iff.1 h
        refine opC (cG.v _ _ _ _ _ _ ht37) ?_
        iterate 3 refine o1 ?_
        refine aa ?_
        obtain rfl:=Option.some.inj h
        exact bh ⟨.inl rfl,.three (.tmp rt) (.tmp rt) (.tmp rt) rfl rfl rfl⟩
      ·skip
       obtain ⟨c38,h⟩:=tkT h hb
       have g39:=hb
       clear hb
       refine aN (ae (ab ?_))
       iterate 8 refine o1 ?_
       refine aa (ae (ab ?_))
       iterate 8 refine o1 ?_
       refine aa (ab ?_)
       iterate 8 refine o1 ?_
       refine aa ?_
       exact aW (ih18 m22 (by omega) (_,_,_,_,_,_,_,_,()) h) ⟨rfl,rfl,rfl,rfl,rfl,rfl,rfl,rfl,trivial⟩ trivial rfl
     ·skip
      obtain ⟨c40,h⟩:=tkF h hb
      have g41:=hb
      clear hb
      rcases m22 with _ | m42
      ·exact absurd h (by simp [P.bk.j2])
      simp only [P.bk.j2] at h
      refine bM (ae (ae (ab ?_)))
      iterate 2 refine o1 ?_
      refine aa ?_
      refine aL rfl (fun hb=>?_) (fun hb=>?_)
      ·skip
       obtain ⟨c43,h⟩:=tkT h hb
       have g44:=hb
       clear hb
       refine ae (ab ?_)
       iterate 3 refine o1 ?_
       refine aa ?_
       obtain rfl:=Option.some.inj h
       exact bh ⟨.inl rfl,.three (.tmp rt) (.tmp rt) (.tmp rt) rfl rfl rfl⟩
      ·skip
       obtain ⟨c45,h⟩:=tkF h hb
       have g46:=hb
       clear hb
       refine aN (ae (ab ?_))
       iterate 4 refine o1 ?_
       obtain ⟨t47,ht48,h⟩:=Option.bind_eq_some_iff.1 h
       refine opC (cG.v _ _ _ _ _ _ ht48) ?_
       iterate 4 refine o1 ?_
       obtain ⟨t49,ht50,h⟩:=Option.bind_eq_some_iff.1 h
       refine opC (cG.v _ _ _ _ _ _ ht50) ?_
       iterate 3 refine o1 ?_
       refine aa ?_
       obtain rfl:=Option.some.inj h
       exact bh ⟨.inl rfl,.three (.tmp rt) (.tmp rt) (.tmp rt) rfl rfl rfl⟩
   ·skip
    refine ab ?_
    iterate 5 refine o1 ?_
    refine og rfl rfl rfl rfl (fun hb=>?_) (fun hb=>?_)
    ·skip
     obtain ⟨c51,h⟩:=tkF h hb
     have g52:=hb
     clear hb
     iterate 4 refine oT ?_
     refine o1 ?_
     refine aa ?_
     exact ⟨(m19,_,_,_,_,_,_,_,_,_,()),⟨h,by omega⟩,bm _ _ ⟨rfl,rfl,rfl,rfl,rfl,rfl,rfl,rfl,rfl,trivial⟩ trivial rfl⟩
    ·skip
     obtain ⟨c53,h⟩:=tkT h hb
     have g54:=hb
     clear hb
     iterate 4 refine opS ?_
     refine o1 ?_
     refine aa ?_
     exact ⟨(m19,_,_,_,_,_,_,_,_,_,()),⟨h,by omega⟩,bm _ _ ⟨rfl,rfl,rfl,rfl,rfl,rfl,rfl,rfl,rfl,trivial⟩ trivial rfl⟩
instance:FN Tryz.prog 106:=⟨⟨_,Tryz.func106,by decide,by simp [Tryz.f106]⟩⟩
set_option maxRecDepth 100000 in
set_option maxHeartbeats 4000000 in
theorem cq.v (k:Nat) (l0:List Int) (l1:List Int) (r:List Int) (h:P.cq.f k l0 l1=some r):Fn Tryz.prog 106 [.ints .u32 l0,.ints .u32 l1] (.ints .u32 r):=by
 refine bY Tryz.func106 rfl (Nat.le_of_ble_eq_true rfl) ?_
 intro X hX
 unfold P.cq.f at h
 refine ae (ab ?_)
 refine o1 ?_
 refine aa (ae (ae (ab ?_)))
 iterate 2 refine o1 ?_
 obtain ⟨t1,ht2,h⟩:=Option.bind_eq_some_iff.1 h
 refine opC (cX.v _ _ _ _ ht2) ?_
 refine o1 ?_
 refine aa ?_
 refine gR (D:=Nat×List Int×List Int×Unit) (fun d=>⟨look [(0,.ints .u32 d.2.1),(1,.ints .u32 d.2.2.1)],look []⟩) (fun d=>P.cq.j0 d.1 d.2.1 d.2.2.1=some r∧d.1≤k) ?_ ?_
 ·skip
  rintro ⟨kq3,x0,x1,_⟩ ⟨h,b4⟩
  dsimp only at h b4 ⊢
  cases kq3 with
  | zero=>exact absurd h (by simp [P.cq.j0])
  | succ m5 =>
   simp only [P.cq.j0] at h
   refine ae (aK (cd ?_))
   refine cn (D:=List Int×List Int×Unit) (fun d=>⟨look [(0,.ints .u32 d.1),(1,.ints .u32 d.2.1)],look []⟩) (fun K_ d=>P.cq.l0 K_ d.1 d.2.1=some r∧K_≤m5) ?_ _ (_,_,()) ⟨h,by omega⟩ (bm _ _ ⟨rfl,rfl,trivial⟩ trivial rfl)
   intro K6 ih7 d h
   obtain ⟨h,b9⟩:=h
   obtain ⟨x0,x1,_⟩:=d
   dsimp only at h b9 ⊢
   cases K6 with
   | zero=>exact absurd h (by simp [P.cq.l0])
   | succ m8 =>
    simp only [P.cq.l0] at h
    refine bK (ae (ae (ab ?_)))
    iterate 3 refine o1 ?_
    refine aa ?_
    refine aL rfl (fun hb=>?_) (fun hb=>?_)
    ·skip
     obtain ⟨c10,h⟩:=tkT h hb
     have g11:=hb
     clear hb
     refine aN (aK (ae (ae (ab ?_))))
     iterate 2 refine o1 ?_
     obtain ⟨t12,ht13,h⟩:=Option.bind_eq_some_iff.1 h
     refine opC (bk.v _ _ _ _ ht13) ?_
     iterate 7 refine o1 ?_
     refine aa (ae (ab ?_))
     refine o1 ?_
     refine aa ?_
     refine aL rfl (fun hb=>?_) (fun hb=>?_)
     ·skip
      obtain ⟨c14,h⟩:=tkT h hb
      have g15:=hb
      clear hb
      refine ae (ab ?_)
      iterate 4 refine o1 ?_
      refine aa (bM ?_)
      exact aW (ih7 m8 (by omega) (_,_,()) ⟨h,by omega⟩) ⟨rfl,rfl,trivial⟩ trivial rfl
     ·skip
      obtain ⟨c16,h⟩:=tkF h hb
      have g17:=hb
      clear hb
      refine aN (ae (ab ?_))
      iterate 2 refine o1 ?_
      obtain ⟨t18,ht19,h⟩:=Option.bind_eq_some_iff.1 h
      refine opC (aI.v _ _ _ _ ht19) ?_
      iterate 5 refine o1 ?_
      refine aa (ab ?_)
      iterate 4 refine o1 ?_
      refine aa ?_
      exact aW (ih7 m8 (by omega) (_,_,()) ⟨h,by omega⟩) ⟨rfl,rfl,trivial⟩ trivial rfl
    ·skip
     obtain ⟨c20,h⟩:=tkF h hb
     have g21:=hb
     clear hb
     refine bM (ae (ae (ab ?_)))
     iterate 3 refine o1 ?_
     refine aa ?_
     refine aL rfl (fun hb=>?_) (fun hb=>?_)
     ·skip
      obtain ⟨c22,h⟩:=tkT h hb
      have g23:=hb
      clear hb
      obtain ⟨q24,h⟩:=ao h
      refine ae (ab ?_)
      iterate 3 refine o1 ?_
      refine aa ?_
      obtain rfl:=Option.some.inj h
      exact bh ⟨.inl rfl,.one (.tmp rt) rfl⟩
     ·skip
      obtain ⟨c25,h⟩:=tkF h hb
      have g26:=hb
      clear hb
      refine aN (ae (ab ?_))
      iterate 2 refine o1 ?_
      obtain ⟨t27,ht28,h⟩:=Option.bind_eq_some_iff.1 h
      refine opC (aI.v _ _ _ _ ht28) ?_
      iterate 5 refine o1 ?_
      refine aa (ae (ab ?_))
      refine o1 ?_
      obtain ⟨t29,ht30,h⟩:=Option.bind_eq_some_iff.1 h
      refine opC (fj.v _ _ ht30) ?_
      iterate 5 refine o1 ?_
      refine aa (ae (ab ?_))
      refine o1 ?_
      obtain ⟨t31,ht32,h⟩:=Option.bind_eq_some_iff.1 h
      refine opC (fj.v _ _ ht32) ?_
      iterate 5 refine o1 ?_
      refine aa (ae (aK (cd ?_)))
      refine cn (D:=Int×Int×Unit) (fun d=>⟨look [(12,.int .u64 d.1),(14,.int .u64 d.2.1)],look []⟩) (fun K_ d=>P.cq.l1 K_ d.1 d.2.1=some r∧K_≤m8) ?_ _ (_,_,()) ⟨h,by omega⟩ (bm _ _ ⟨rfl,rfl,trivial⟩ trivial rfl)
      intro K33 ih34 d h
      obtain ⟨h,b36⟩:=h
      obtain ⟨x12,x14,_⟩:=d
      dsimp only at h b36 ⊢
      cases K33 with
      | zero=>exact absurd h (by simp [P.cq.l1])
      | succ m35 =>
       simp only [P.cq.l1] at h
       refine bK (ae (ae (ab ?_)))
       iterate 2 refine o1 ?_
       refine aa ?_
       refine aL rfl (fun hb=>?_) (fun hb=>?_)
       ·skip
        obtain ⟨c37,h⟩:=tkF h hb
        have g38:=hb
        clear hb
        refine aN (aK (fT ?_))
        iterate 6 refine s1 ?_
        refine lR ?_
        exact aW (ih34 m35 (by omega) (_,_,()) ⟨h,by omega⟩) ⟨rfl,rfl,trivial⟩ trivial rfl
       ·skip
        obtain ⟨c39,h⟩:=tkT h hb
        have g40:=hb
        clear hb
        refine bM (ae (ab ?_))
        refine o1 ?_
        obtain ⟨t41,ht42,h⟩:=Option.bind_eq_some_iff.1 h
        refine opC (dE.v _ _ _ ht42) ?_
        refine o1 ?_
        refine aa ?_
        obtain rfl:=Option.some.inj h
        exact bh ⟨.inl rfl,.one (.tmp rt) rfl⟩
 ·skip
  refine aL rfl (fun hb=>?_) (fun hb=>?_)
  ·skip
   obtain ⟨c43,h⟩:=tkT h hb
   have g44:=hb
   clear hb
   refine ab ?_
   iterate 4 refine o1 ?_
   refine aa ?_
   exact ⟨(k,_,_,()),⟨h,by omega⟩,bm _ _ ⟨rfl,rfl,trivial⟩ trivial rfl⟩
  ·skip
   obtain ⟨c45,h⟩:=tkF h hb
   have g46:=hb
   clear hb
   refine aN ?_
   exact ⟨(k,_,_,()),⟨h,by omega⟩,bm _ _ ⟨rfl,rfl,trivial⟩ trivial rfl⟩
instance:FN Tryz.prog 92:=⟨⟨_,Tryz.func92,by decide,by simp [Tryz.f92]⟩⟩
set_option maxRecDepth 100000 in
set_option maxHeartbeats 4000000 in
theorem dg.v (k:Nat) (l0:List Int) (l1:List Int) (r:List Int) (h:P.dg.f k l0 l1=some r):Fn Tryz.prog 92 [.ints .u32 l0,.ints .u32 l1] (.ints .u32 r):=by
 refine bY Tryz.func92 rfl (Nat.le_of_ble_eq_true rfl) ?_
 intro X hX
 unfold P.dg.f at h
 refine ae (ab ?_)
 refine o1 ?_
 refine aa (ae (ae (ab ?_)))
 iterate 5 refine o1 ?_
 refine aa ?_
 refine gR (D:=Nat×List Int×List Int×Unit) (fun d=>⟨look [(0,.ints .u32 d.2.1),(1,.ints .u32 d.2.2.1)],look []⟩) (fun d=>P.dg.j0 d.1 d.2.1 d.2.2.1=some r∧d.1≤k) ?_ ?_
 ·skip
  rintro ⟨kq1,x0,x1,_⟩ ⟨h,b2⟩
  dsimp only at h b2 ⊢
  cases kq1 with
  | zero=>exact absurd h (by simp [P.dg.j0])
  | succ m3 =>
   simp only [P.dg.j0] at h
   obtain ⟨q4,h⟩:=ao h
   obtain ⟨q5,h⟩:=ao h
   refine ae (ab ?_)
   iterate 5 refine o1 ?_
   refine aa (ae (ab ?_))
   refine o1 ?_
   refine aa (ae (ae (ab ?_)))
   iterate 3 refine o1 ?_
   refine aa (aK (cd ?_))
   refine cn (D:=List Int×List Int×List Int×Int×List Int×Int×Int×Unit) (fun d=>⟨look [(0,.ints .u32 d.1),(1,.ints .u32 d.2.1),(5,.own 19),(6,.int .u64 d.2.2.2.1),(20,.ints .u32 d.2.2.2.2.1),(21,.int .i64 d.2.2.2.2.2.1),(22,.int .i64 d.2.2.2.2.2.2.1)],look [(19,gi 105 .u32 d.2.2.1)]⟩) (fun K_ d=>P.dg.l0 K_ d.1 d.2.1 d.2.2.1 d.2.2.2.1 d.2.2.2.2.1 d.2.2.2.2.2.1 d.2.2.2.2.2.2.1=some r∧K_≤m3) ?_ _ (_,_,_,_,_,_,_,()) ⟨h,by omega⟩ (bm _ _ ⟨rfl,rfl,rfl,rfl,rfl,rfl,rfl,trivial⟩ ⟨rfl,trivial⟩ rfl)
   intro K6 ih7 d h
   obtain ⟨h,b9⟩:=h
   obtain ⟨x0,x1,x5,x6,x20,x21,x22,_⟩:=d
   dsimp only at h b9 ⊢
   cases K6 with
   | zero=>exact absurd h (by simp [P.dg.l0])
   | succ m8 =>
    simp only [P.dg.l0] at h
    refine bK (ae (ab ?_))
    refine o1 ?_
    refine aa (ae ?_)
    refine aL rfl (fun hb=>?_) (fun hb=>?_)
    ·skip
     obtain ⟨c10,h⟩:=tkT h hb
     have g11:=hb
     clear hb
     obtain ⟨q12,h⟩:=ao h
     obtain ⟨q13,h⟩:=ao h
     refine aN (ae (aK (ae (ab ?_))))
     iterate 5 refine o1 ?_
     refine aa (ae (ab ?_))
     iterate 5 refine o1 ?_
     refine aa (ae (ae (ab ?_)))
     iterate 4 refine o1 ?_
     refine aa ?_
     refine aL rfl (fun hb=>?_) (fun hb=>?_)
     ·skip
      obtain ⟨c14,h⟩:=tkT h hb
      have g15:=hb
      clear hb
      obtain ⟨q16,h⟩:=ao h
      refine ab ?_
      iterate 8 refine o1 ?_
      refine aa (ae (ab ?_))
      iterate 6 refine o1 ?_
      refine aa (ab ?_)
      iterate 3 refine o1 ?_
      refine aa (ab ?_)
      iterate 2 refine o1 ?_
      refine aa ?_
      exact aW (ih7 m8 (by omega) (_,_,_,_,_,_,_,()) ⟨h,by omega⟩) ⟨rfl,rfl,rfl,rfl,rfl,rfl,rfl,trivial⟩ ⟨rfl,trivial⟩ rfl
     ·skip
      obtain ⟨c17,h⟩:=tkF h hb
      have g18:=hb
      clear hb
      obtain ⟨q19,h⟩:=ao h
      refine aN (ae (ab ?_))
      iterate 6 refine o1 ?_
      refine aa (ab ?_)
      iterate 3 refine o1 ?_
      refine aa (ab ?_)
      iterate 2 refine o1 ?_
      refine aa ?_
      exact aW (ih7 m8 (by omega) (_,_,_,_,_,_,_,()) ⟨h,by omega⟩) ⟨rfl,rfl,rfl,rfl,rfl,rfl,rfl,trivial⟩ ⟨rfl,trivial⟩ rfl
    ·skip
     obtain ⟨c20,h⟩:=tkF h hb
     have g21:=hb
     clear hb
     obtain ⟨q22,h⟩:=ao h
     obtain ⟨q23,h⟩:=ao h
     refine bM (ae (ab ?_))
     iterate 7 refine o1 ?_
     refine aa (ae ?_)
     refine eJ (dz (k:=19) rfl) ?_
     refine ab ?_
     refine o1 ?_
     obtain ⟨t24,ht25,h⟩:=Option.bind_eq_some_iff.1 h
     refine opC (cJ.v _ _ _ ht25) ?_
     refine o1 ?_
     refine aa ?_
     obtain rfl:=Option.some.inj h
     exact bh ⟨.inl rfl,.one (.tmp rt) rfl⟩
 ·skip
  refine aL rfl (fun hb=>?_) (fun hb=>?_)
  ·skip
   obtain ⟨c26,h⟩:=tkT h hb
   have g27:=hb
   clear hb
   refine ab ?_
   iterate 4 refine o1 ?_
   refine aa ?_
   exact ⟨(k,_,_,()),⟨h,by omega⟩,bm _ _ ⟨rfl,rfl,trivial⟩ trivial rfl⟩
  ·skip
   obtain ⟨c28,h⟩:=tkF h hb
   have g29:=hb
   clear hb
   refine aN ?_
   exact ⟨(k,_,_,()),⟨h,by omega⟩,bm _ _ ⟨rfl,rfl,trivial⟩ trivial rfl⟩
instance:FN Tryz.prog 115:=⟨⟨_,Tryz.func115,by decide,by simp [Tryz.f115]⟩⟩
set_option maxRecDepth 100000 in
set_option maxHeartbeats 4000000 in
theorem aS.v (k:Nat) (l0:List Int) (r:List Int) (h:P.aS.f k l0=some r):Fn Tryz.prog 115 [.ints .i64 l0] (.ints .i64 r):=by
 refine bY Tryz.func115 rfl (Nat.le_of_ble_eq_true rfl) ?_
 intro X hX
 unfold P.aS.f at h
 refine ae (ab ?_)
 refine o1 ?_
 refine aa (ae (ab ?_))
 iterate 3 refine o1 ?_
 refine aa (ae (aK (cd ?_)))
 refine cn (D:=List Int×Int×Unit) (fun d=>⟨look [(0,.ints .i64 d.1),(3,.int .i64 d.2.1)],look []⟩) (fun K_ d=>P.aS.l0 K_ d.1 d.2.1=some r) ?_ _ (_,_,()) h (bm _ _ ⟨rfl,rfl,trivial⟩ trivial rfl)
 intro K1 ih2 d h
 obtain ⟨x0,x3,_⟩:=d
 dsimp only at h ⊢
 cases K1 with
 | zero=>exact absurd h (by simp [P.aS.l0])
 | succ m3 =>
  simp only [P.aS.l0] at h
  refine bK (ae (ae (ab ?_)))
  iterate 3 refine o1 ?_
  refine og rfl rfl rfl rfl (fun hb=>?_) (fun hb=>?_)
  ·skip
   obtain ⟨c4,h⟩:=tkT h hb
   have g5:=hb
   clear hb
   obtain ⟨q6,h⟩:=ao h
   obtain ⟨q7,h⟩:=ao h
   iterate 6 refine oT ?_
   refine o1 ?_
   refine aa ?_
   refine aL rfl (fun hb=>?_) (fun hb=>?_)
   ·skip
    obtain ⟨c8,h⟩:=tkT h hb
    have g9:=hb
    clear hb
    refine aN (aK (ab ?_))
    iterate 3 refine o1 ?_
    refine aa ?_
    exact aW (ih2 m3 (by omega) (_,_,()) h) ⟨rfl,rfl,trivial⟩ trivial rfl
   ·skip
    obtain ⟨c10,h⟩:=tkF h hb
    have g11:=hb
    clear hb
    obtain ⟨q12,h⟩:=ao h
    obtain ⟨q13,h⟩:=ao h
    refine bM (ae (ab ?_))
    iterate 4 refine o1 ?_
    refine aa ?_
    obtain rfl:=Option.some.inj h
    exact bh ⟨.inl rfl,.one (.tmp rt) rfl⟩
  ·skip
   obtain ⟨c14,h⟩:=tkF h hb
   have g15:=hb
   clear hb
   obtain ⟨q16,h⟩:=ao h
   obtain ⟨q17,h⟩:=ao h
   iterate 6 refine opS ?_
   refine o1 ?_
   refine aa ?_
   refine aL rfl (fun hb=>?_) (fun hb=>?_)
   ·skip
    first | cases hb | (simp_all;done)
   ·skip
    refine bM (ae (ab ?_))
    iterate 4 refine o1 ?_
    refine aa ?_
    obtain rfl:=Option.some.inj h
    exact bh ⟨.inl rfl,.one (.tmp rt) rfl⟩
instance:FN Tryz.prog 79:=⟨⟨_,Tryz.func79,by decide,by simp [Tryz.f79]⟩⟩
set_option maxRecDepth 100000 in
set_option maxHeartbeats 4000000 in
theorem ba.v (k:Nat) (l0:List Int) (a1:Int) (r:List Int×Int) (h:P.ba.f k l0 a1=some r):Fn Tryz.prog 79 [.ints .i64 l0,.int .i64 a1] (.tup [.ints .i64 r.1,.int .i64 r.2]):=by
 refine bY Tryz.func79 rfl (Nat.le_of_ble_eq_true rfl) ?_
 intro X hX
 unfold P.ba.f at h
 obtain ⟨q1,h⟩:=ao h
 obtain ⟨q2,h⟩:=ao h
 refine ae (ab ?_)
 iterate 2 refine o1 ?_
 refine aa (ae (ab ?_))
 iterate 4 refine o1 ?_
 refine aa (ae (ab ?_))
 refine o1 ?_
 refine aa (ae (ae (ab ?_)))
 iterate 4 refine o1 ?_
 refine aa (aK (cd ?_))
 refine cn (D:=List Int×Int×List Int×Int×Int×Unit) (fun d=>⟨look [(0,.ints .i64 d.1),(1,.int .i64 d.2.1),(6,.own 11),(7,.int .i64 d.2.2.2.1),(8,.int .i64 d.2.2.2.2.1)],look [(11,gi 3 .i64 d.2.2.1)]⟩) (fun K_ d=>P.ba.l0 K_ d.1 d.2.1 d.2.2.1 d.2.2.2.1 d.2.2.2.2.1=some r) ?_ _ (_,_,_,_,_,()) h (bm _ _ ⟨rfl,rfl,rfl,rfl,rfl,trivial⟩ ⟨rfl,trivial⟩ rfl)
 intro K3 ih4 d h
 obtain ⟨x0,x1,x6,x7,x8,_⟩:=d
 dsimp only at h ⊢
 cases K3 with
 | zero=>exact absurd h (by simp [P.ba.l0])
 | succ m5 =>
  simp only [P.ba.l0] at h
  refine bK (ae (ae (ab ?_)))
  iterate 2 refine o1 ?_
  refine aa ?_
  refine aL rfl (fun hb=>?_) (fun hb=>?_)
  ·skip
   obtain ⟨c6,h⟩:=tkT h hb
   have g7:=hb
   clear hb
   obtain ⟨q8,h⟩:=ao h
   obtain ⟨q9,h⟩:=ao h
   obtain ⟨q10,h⟩:=iX h
   obtain ⟨q11,h⟩:=ao h
   refine aN (ae (aK (ae (ab ?_))))
   iterate 8 refine o1 ?_
   refine aa (ae (ab ?_))
   iterate 7 refine o1 ?_
   refine aa (ab ?_)
   iterate 4 refine o1 ?_
   refine aa (ab ?_)
   iterate 3 refine o1 ?_
   refine aa ?_
   exact aW (ih4 m5 (by omega) (_,_,_,_,_,()) h) ⟨rfl,rfl,rfl,rfl,rfl,trivial⟩ ⟨rfl,trivial⟩ rfl
  ·skip
   obtain ⟨c12,h⟩:=tkF h hb
   have g13:=hb
   clear hb
   refine bM (ae ?_)
   refine eJ (dz (k:=11) rfl) ?_
   refine ab ?_
   refine o1 ?_
   obtain ⟨t14,ht15,h⟩:=Option.bind_eq_some_iff.1 h
   refine opC (aS.v _ _ _ ht15) ?_
   iterate 3 refine o1 ?_
   refine aa ?_
   obtain rfl:=Option.some.inj h
   exact bh ⟨.inl rfl,.two (.tmp rt) (.tmp rt) rfl rfl⟩
instance:FN Tryz.prog 43:=⟨⟨_,Tryz.func43,by decide,by simp [Tryz.f43]⟩⟩
set_option maxRecDepth 100000 in
set_option maxHeartbeats 4000000 in
theorem aF.v (k:Nat) (l0:List Int) (r:List Int) (h:P.aF.f k l0=some r):Fn Tryz.prog 43 [.ints .i64 l0] (.ints .u32 r):=by
 refine bY Tryz.func43 rfl (Nat.le_of_ble_eq_true rfl) ?_
 intro X hX
 unfold P.aF.f at h
 refine ae (ab ?_)
 refine o1 ?_
 refine aa (ae (ab ?_))
 refine dA rfl (wu 3 .i64 (.inr rfl) rfl rfl (ib hX (by decide))) ?_
 refine aa (ae (aK (cd ?_)))
 refine cn (D:=List Int×List Int×Unit) (fun d=>⟨look [(0,.ints .i64 d.1),(3,.own 3)],look [(3,gi 3 .i64 d.2.1)]⟩) (fun K_ d=>P.aF.l0 K_ d.1 d.2.1=some r) ?_ _ (_,_,()) h (bm _ _ ⟨rfl,rfl,trivial⟩ ⟨rfl,trivial⟩ rfl)
 intro K1 ih2 d h
 obtain ⟨x0,x3,_⟩:=d
 dsimp only at h ⊢
 cases K1 with
 | zero=>exact absurd h (by simp [P.aF.l0])
 | succ m3 =>
  simp only [P.aF.l0] at h
  refine bK (ae (ae (ab ?_)))
  iterate 3 refine o1 ?_
  refine aa ?_
  refine aL rfl (fun hb=>?_) (fun hb=>?_)
  ·skip
   obtain ⟨c4,h⟩:=tkT h hb
   have g5:=hb
   clear hb
   refine aN (aK (ae (ab ?_)))
   refine o1 ?_
   obtain ⟨t6,ht7,h⟩:=Option.bind_eq_some_iff.1 h
   refine opC (ba.v _ _ _ _ ht7) ?_
   obtain ⟨q8,h⟩:=ao h
   iterate 5 refine o1 ?_
   refine aa (ae (ab ?_))
   iterate 5 refine o1 ?_
   refine aa (ab ?_)
   iterate 2 refine o1 ?_
   refine aa ?_
   exact aW (ih2 m3 (by omega) (_,_,()) h) ⟨rfl,rfl,trivial⟩ ⟨rfl,trivial⟩ rfl
  ·skip
   obtain ⟨c9,h⟩:=tkF h hb
   have g10:=hb
   clear hb
   refine bM (ae (ab ?_))
   refine dA rfl (wu 105 .u32 (.inr rfl) rfl rfl (ib hX (by decide))) ?_
   refine aa (ae (ae (ab ?_)))
   refine o1 ?_
   refine aa (aK (cd ?_))
   refine cn (D:=List Int×List Int×Int×Unit) (fun d=>⟨look [(3,.own 3),(6,.own 6),(7,.int .i64 d.2.2.1)],look [(3,gi 3 .i64 d.1),(6,gi 105 .u32 d.2.1)]⟩) (fun K_ d=>P.aF.l1 K_ d.1 d.2.1 d.2.2.1=some r∧K_≤m3) ?_ _ (_,_,_,()) ⟨h,by omega⟩ (bm _ _ ⟨rfl,rfl,rfl,trivial⟩ ⟨rfl,rfl,trivial⟩ rfl)
   intro K11 ih12 d h
   obtain ⟨h,b14⟩:=h
   obtain ⟨x3,x6,x7,_⟩:=d
   dsimp only at h b14 ⊢
   cases K11 with
   | zero=>exact absurd h (by simp [P.aF.l1])
   | succ m13 =>
    simp only [P.aF.l1] at h
    refine bK (ae (ae (ab ?_)))
    iterate 4 refine o1 ?_
    refine aa ?_
    refine aL rfl (fun hb=>?_) (fun hb=>?_)
    ·skip
     obtain ⟨c15,h⟩:=tkT h hb
     have g16:=hb
     clear hb
     obtain ⟨q17,h⟩:=ao h
     refine aN (ae (aK (ae (ab ?_))))
     iterate 6 refine o1 ?_
     refine aa (ae (ae (ab ?_)))
     iterate 5 refine o1 ?_
     refine aa ?_
     refine aL rfl (fun hb=>?_) (fun hb=>?_)
     ·skip
      obtain ⟨c18,h⟩:=tkT h hb
      have g19:=hb
      clear hb
      obtain ⟨q20,h⟩:=ao h
      obtain ⟨q21,h⟩:=ao h
      refine ab ?_
      iterate 10 refine o1 ?_
      refine aa (ab ?_)
      iterate 5 refine o1 ?_
      refine aa (ab ?_)
      iterate 3 refine o1 ?_
      refine aa ?_
      exact aW (ih12 m13 (by omega) (_,_,_,()) ⟨h,by omega⟩) ⟨rfl,rfl,rfl,trivial⟩ ⟨rfl,rfl,trivial⟩ rfl
     ·skip
      obtain ⟨c22,h⟩:=tkF h hb
      have g23:=hb
      clear hb
      obtain ⟨q24,h⟩:=ao h
      refine aN (ab ?_)
      iterate 5 refine o1 ?_
      refine aa (ab ?_)
      iterate 3 refine o1 ?_
      refine aa ?_
      exact aW (ih12 m13 (by omega) (_,_,_,()) ⟨h,by omega⟩) ⟨rfl,rfl,rfl,trivial⟩ ⟨rfl,rfl,trivial⟩ rfl
    ·skip
     obtain ⟨c25,h⟩:=tkF h hb
     have g26:=hb
     clear hb
     refine bM (ae (ab ?_))
     iterate 2 refine o1 ?_
     refine aa ?_
     refine eJ (dz (k:=6) rfl) ?_
     obtain rfl:=Option.some.inj h
     exact bh ⟨.inl rfl,.one (.tmp rt) rfl⟩
instance:FN Tryz.prog 66:=⟨⟨_,Tryz.func66,by decide,by simp [Tryz.f66]⟩⟩
set_option maxRecDepth 100000 in
set_option maxHeartbeats 4000000 in
theorem aH.v (k:Nat) (a0:Int) (r:List Int) (h:P.aH.f k a0=some r):Fn Tryz.prog 66 [.int .i64 a0] (.ints .i64 r):=by
 refine bY Tryz.func66 rfl (Nat.le_of_ble_eq_true rfl) ?_
 intro X hX
 unfold P.aH.f at h
 refine ae (ab ?_)
 refine o1 ?_
 refine aa (ae (ab ?_))
 refine dA rfl (CH rfl rfl rfl (ib hX (by decide))) ?_
 refine o1 ?_
 refine aa (ae (aK (cd ?_)))
 refine cn (D:=Int×List Int×Unit) (fun d=>⟨look [(0,.int .i64 d.1),(3,.own 4)],look [(4,gi 3 .i64 d.2.1)]⟩) (fun K_ d=>P.aH.l0 K_ d.1 d.2.1=some r) ?_ _ (_,_,()) h (bm _ _ ⟨rfl,rfl,trivial⟩ ⟨rfl,trivial⟩ rfl)
 intro K1 ih2 d h
 obtain ⟨x0,x3,_⟩:=d
 dsimp only at h ⊢
 cases K1 with
 | zero=>exact absurd h (by simp [P.aH.l0])
 | succ m3 =>
  simp only [P.aH.l0] at h
  refine bK (ae (ae (ab ?_)))
  iterate 2 refine o1 ?_
  refine aa ?_
  refine aL rfl (fun hb=>?_) (fun hb=>?_)
  ·skip
   obtain ⟨c4,h⟩:=tkT h hb
   have g5:=hb
   clear hb
   obtain ⟨q6,h⟩:=ao h
   refine aN (aK (ae (ab ?_)))
   iterate 6 refine o1 ?_
   refine aa (ab ?_)
   iterate 3 refine o1 ?_
   refine aa ?_
   exact aW (ih2 m3 (by omega) (_,_,()) h) ⟨rfl,rfl,trivial⟩ ⟨rfl,trivial⟩ rfl
  ·skip
   obtain ⟨c7,h⟩:=tkF h hb
   have g8:=hb
   clear hb
   refine bM (ae (ab ?_))
   iterate 2 refine o1 ?_
   refine aa ?_
   refine eJ (dz (k:=4) rfl) ?_
   obtain rfl:=Option.some.inj h
   exact bh ⟨.inl rfl,.one (.tmp rt) rfl⟩
instance:FN Tryz.prog 80:=⟨⟨_,Tryz.func80,by decide,by simp [Tryz.f80]⟩⟩
set_option maxRecDepth 100000 in
set_option maxHeartbeats 4000000 in
theorem ax.v (k:Nat) (l0:List Int) (a1:Int) (a2:Int) (r:List Int) (h:P.ax.f k l0 a1 a2=some r):Fn Tryz.prog 80 [.ints .i64 l0,.int .i64 a1,.int .i64 a2] (.ints .i64 r):=by
 refine bY Tryz.func80 rfl (Nat.le_of_ble_eq_true rfl) ?_
 intro X hX
 unfold P.ax.f at h
 obtain ⟨q1,h⟩:=ao h
 obtain ⟨q2,h⟩:=ao h
 refine ae (ab ?_)
 refine o1 ?_
 refine aa (ae (ab ?_))
 iterate 5 refine o1 ?_
 refine aa (ae (ae (ab ?_)))
 iterate 3 refine o1 ?_
 refine aa (aK (cd ?_))
 refine cn (D:=Int×Int×List Int×List Int×Int×Int×Unit) (fun d=>⟨look [(1,.int .i64 d.1),(2,.int .i64 d.2.1),(7,.own 13),(14,.ints .i64 d.2.2.2.1),(15,.int .i64 d.2.2.2.2.1),(16,.int .i64 d.2.2.2.2.2.1)],look [(13,gi 3 .i64 d.2.2.1)]⟩) (fun K_ d=>P.ax.l0 K_ d.1 d.2.1 d.2.2.1 d.2.2.2.1 d.2.2.2.2.1 d.2.2.2.2.2.1=some r) ?_ _ (_,_,_,_,_,_,()) h (bm _ _ ⟨rfl,rfl,rfl,rfl,rfl,rfl,trivial⟩ ⟨rfl,trivial⟩ rfl)
 intro K3 ih4 d h
 obtain ⟨x1,x2,x7,x14,x15,x16,_⟩:=d
 dsimp only at h ⊢
 cases K3 with
 | zero=>exact absurd h (by simp [P.ax.l0])
 | succ m5 =>
  simp only [P.ax.l0] at h
  refine bK (ae (ab ?_))
  refine o1 ?_
  refine aa (ae ?_)
  refine aL rfl (fun hb=>?_) (fun hb=>?_)
  ·skip
   obtain ⟨c6,h⟩:=tkT h hb
   have g7:=hb
   clear hb
   obtain ⟨q8,h⟩:=ao h
   obtain ⟨q9,h⟩:=ao h
   obtain ⟨q10,h⟩:=ao h
   refine aN (ae (aK (ae (ab ?_))))
   iterate 3 refine o1 ?_
   refine aa (ae (ab ?_))
   iterate 6 refine o1 ?_
   refine aa (ae (ab ?_))
   iterate 6 refine o1 ?_
   refine aa (ab ?_)
   iterate 3 refine o1 ?_
   refine aa (ab ?_)
   iterate 2 refine o1 ?_
   refine aa ?_
   exact aW (ih4 m5 (by omega) (_,_,_,_,_,_,()) h) ⟨rfl,rfl,rfl,rfl,rfl,rfl,trivial⟩ ⟨rfl,trivial⟩ rfl
  ·skip
   obtain ⟨c11,h⟩:=tkF h hb
   have g12:=hb
   clear hb
   refine bM (ae (aK (cd ?_)))
   refine cn (D:=Int×List Int×Unit) (fun d=>⟨look [(2,.int .i64 d.1),(7,.own 13)],look [(13,gi 3 .i64 d.2.1)]⟩) (fun K_ d=>P.ax.l1 K_ d.1 d.2.1=some r∧K_≤m5) ?_ _ (_,_,()) ⟨h,by omega⟩ (bm _ _ ⟨rfl,rfl,trivial⟩ ⟨rfl,trivial⟩ rfl)
   intro K13 ih14 d h
   obtain ⟨h,b16⟩:=h
   obtain ⟨x2,x7,_⟩:=d
   dsimp only at h b16 ⊢
   cases K13 with
   | zero=>exact absurd h (by simp [P.ax.l1])
   | succ m15 =>
    simp only [P.ax.l1] at h
    refine bK (ae (ae (ab ?_)))
    iterate 2 refine o1 ?_
    refine aa ?_
    refine aL rfl (fun hb=>?_) (fun hb=>?_)
    ·skip
     obtain ⟨c17,h⟩:=tkT h hb
     have g18:=hb
     clear hb
     obtain ⟨q19,h⟩:=ao h
     refine aN (aK (ae (ab ?_)))
     iterate 6 refine o1 ?_
     refine aa (ab ?_)
     iterate 3 refine o1 ?_
     refine aa ?_
     exact aW (ih14 m15 (by omega) (_,_,()) ⟨h,by omega⟩) ⟨rfl,rfl,trivial⟩ ⟨rfl,trivial⟩ rfl
    ·skip
     obtain ⟨c20,h⟩:=tkF h hb
     have g21:=hb
     clear hb
     refine bM (ae ?_)
     refine eJ (dz (k:=13) rfl) ?_
     refine ab ?_
     refine o1 ?_
     obtain ⟨t22,ht23,h⟩:=Option.bind_eq_some_iff.1 h
     refine opC (aS.v _ _ _ ht23) ?_
     refine o1 ?_
     refine aa ?_
     obtain rfl:=Option.some.inj h
     exact bh ⟨.inl rfl,.one (.tmp rt) rfl⟩
instance:FN Tryz.prog 71:=⟨⟨_,Tryz.func71,by decide,by simp [Tryz.f71]⟩⟩
set_option maxRecDepth 100000 in
set_option maxHeartbeats 4000000 in
theorem bD.v (l0:List Int) (r:Bool) (h:P.bD.f l0=some r):Fn Tryz.prog 71 [.ints .u32 l0] (.bool r):=by
 refine bY Tryz.func71 rfl (Nat.le_of_ble_eq_true rfl) ?_
 intro X hX
 unfold P.bD.f at h
 refine ae (ab ?_)
 refine o1 ?_
 refine aa (ae (ab ?_))
 iterate 4 refine o1 ?_
 refine og rfl rfl rfl rfl (fun hb=>?_) (fun hb=>?_)
 ·skip
  obtain ⟨c1,h⟩:=tkT h hb
  have g2:=hb
  clear hb
  iterate 4 refine oT ?_
  refine og rfl rfl rfl rfl (fun hb=>?_) (fun hb=>?_)
  ·skip
   obtain ⟨c3,h⟩:=tkF h hb
   have g4:=hb
   clear hb
   obtain ⟨q5,h⟩:=ao h
   obtain ⟨q6,h⟩:=ao h
   iterate 8 refine oT ?_
   iterate 2 refine o1 ?_
   refine aa ?_
   obtain rfl:=Option.some.inj h
   exact bh ⟨.inl rfl,.one (.tmp rt) rfl⟩
  ·skip
   obtain ⟨c7,h⟩:=tkT h hb
   have g8:=hb
   clear hb
   iterate 7 refine opS ?_
   refine oT ?_
   iterate 2 refine o1 ?_
   refine aa ?_
   obtain rfl:=Option.some.inj h
   exact bh ⟨.inl rfl,.one (.tmp rt) rfl⟩
 ·skip
  obtain ⟨c9,h⟩:=tkF h hb
  have g10:=hb
  clear hb
  iterate 4 refine opS ?_
  iterate 7 refine opU ?_
  refine opS ?_
  iterate 2 refine o1 ?_
  refine aa ?_
  obtain rfl:=Option.some.inj h
  exact bh ⟨.inl rfl,.one (.tmp rt) rfl⟩
instance:FN Tryz.prog 72:=⟨⟨_,Tryz.func72,by decide,by simp [Tryz.f72]⟩⟩
set_option maxRecDepth 100000 in
set_option maxHeartbeats 4000000 in
theorem aG.v (k:Nat) (l0:List Int) (l1:List Int) (r:Int) (h:P.aG.f k l0 l1=some r):Fn Tryz.prog 72 [.ints .i64 l0,.ints .i64 l1] (.int .i64 r):=by
 refine bY Tryz.func72 rfl (Nat.le_of_ble_eq_true rfl) ?_
 intro X hX
 unfold P.aG.f at h
 refine ae (ab ?_)
 refine o1 ?_
 refine aa (ae (ae (ab ?_)))
 iterate 5 refine o1 ?_
 refine aa ?_
 refine aL rfl (fun hb=>?_) (fun hb=>?_)
 ·skip
  obtain ⟨c1,h⟩:=tkF h hb
  have g2:=hb
  clear hb
  refine ae (ae (ab ?_))
  iterate 5 refine o1 ?_
  refine aa ?_
  refine aL rfl (fun hb=>?_) (fun hb=>?_)
  ·skip
   obtain ⟨c3,h⟩:=tkT h hb
   have g4:=hb
   clear hb
   refine ae (ab ?_)
   refine o1 ?_
   refine aa ?_
   obtain rfl:=Option.some.inj h
   exact bh ⟨.inl rfl,.one (.tmp rt) rfl⟩
  ·skip
   obtain ⟨c5,h⟩:=tkF h hb
   have g6:=hb
   clear hb
   refine aN (ae (ab ?_))
   refine o1 ?_
   refine aa ?_
   obtain rfl:=Option.some.inj h
   exact bh ⟨.inl rfl,.one (.tmp rt) rfl⟩
 ·skip
  obtain ⟨c7,h⟩:=tkT h hb
  have g8:=hb
  clear hb
  refine aN (ae (ae (ab ?_)))
  iterate 4 refine o1 ?_
  refine aa (aK (cd ?_))
  refine cn (D:=List Int×List Int×Int×Unit) (fun d=>⟨look [(0,.ints .i64 d.1),(1,.ints .i64 d.2.1),(5,.int .i64 d.2.2.1)],look []⟩) (fun K_ d=>P.aG.l0 K_ d.1 d.2.1 d.2.2.1=some r) ?_ _ (_,_,_,()) h (bm _ _ ⟨rfl,rfl,rfl,trivial⟩ trivial rfl)
  intro K9 ih10 d h
  obtain ⟨x0,x1,x5,_⟩:=d
  dsimp only at h ⊢
  cases K9 with
  | zero=>exact absurd h (by simp [P.aG.l0])
  | succ m11 =>
   simp only [P.aG.l0] at h
   refine bK (ae (ae (ab ?_)))
   iterate 2 refine o1 ?_
   refine aa ?_
   refine aL rfl (fun hb=>?_) (fun hb=>?_)
   ·skip
    obtain ⟨c12,h⟩:=tkT h hb
    have g13:=hb
    clear hb
    obtain ⟨q14,h⟩:=ao h
    obtain ⟨q15,h⟩:=ao h
    obtain ⟨q16,h⟩:=ao h
    refine aN (ae (aK (ae (fT ?_))))
    iterate 9 refine s1 ?_
    refine lR ?_
    refine aL rfl (fun hb=>?_) (fun hb=>?_)
    ·skip
     obtain ⟨c17,h⟩:=tkF h hb
     have g18:=hb
     clear hb
     refine ae (ae (fT ?_))
     iterate 9 refine s1 ?_
     refine lR ?_
     refine aL rfl (fun hb=>?_) (fun hb=>?_)
     ·skip
      obtain ⟨c19,h⟩:=tkT h hb
      have g20:=hb
      clear hb
      refine ae (ab ?_)
      refine o1 ?_
      refine aa ?_
      obtain rfl:=Option.some.inj h
      exact bh ⟨.inl rfl,.one (.tmp rt) rfl⟩
     ·skip
      obtain ⟨c21,h⟩:=tkF h hb
      have g22:=hb
      clear hb
      refine aN (ae (ab ?_))
      refine o1 ?_
      refine aa ?_
      obtain rfl:=Option.some.inj h
      exact bh ⟨.inl rfl,.one (.tmp rt) rfl⟩
    ·skip
     obtain ⟨c23,h⟩:=tkT h hb
     have g24:=hb
     clear hb
     refine aN (ab ?_)
     iterate 3 refine o1 ?_
     refine aa ?_
     exact aW (ih10 m11 (by omega) (_,_,_,()) h) ⟨rfl,rfl,rfl,trivial⟩ trivial rfl
   ·skip
    obtain ⟨c25,h⟩:=tkF h hb
    have g26:=hb
    clear hb
    refine bM (ae (ab ?_))
    refine o1 ?_
    refine aa ?_
    obtain rfl:=Option.some.inj h
    exact bh ⟨.inl rfl,.one (.tmp rt) rfl⟩
instance:FN Tryz.prog 103:=⟨⟨_,Tryz.func103,by decide,by simp [Tryz.f103]⟩⟩
set_option maxRecDepth 100000 in
set_option maxHeartbeats 4000000 in
theorem aP.v (k:Nat) (l0:List Int) (r:Int×Bool) (h:P.aP.f k l0=some r):Fn Tryz.prog 103 [.ints .i64 l0] (.tup [.int .i64 r.1,.bool r.2]):=by
 refine bY Tryz.func103 rfl (Nat.le_of_ble_eq_true rfl) ?_
 intro X hX
 unfold P.aP.f at h
 refine ae (ab ?_)
 iterate 2 refine o1 ?_
 refine aa (ae (ae (ab ?_)))
 iterate 3 refine o1 ?_
 refine aa ?_
 refine aL rfl (fun hb=>?_) (fun hb=>?_)
 ·skip
  obtain ⟨c1,h⟩:=tkT h hb
  have g2:=hb
  clear hb
  refine ae (ab ?_)
  iterate 2 refine o1 ?_
  refine aa ?_
  obtain rfl:=Option.some.inj h
  exact bh ⟨.inl rfl,.two (.tmp rt) (.tmp rt) rfl rfl⟩
 ·skip
  obtain ⟨c3,h⟩:=tkF h hb
  have g4:=hb
  clear hb
  refine aN (ae (ab ?_))
  refine o1 ?_
  refine aa (ae (ae (ab ?_)))
  iterate 4 refine o1 ?_
  refine aa (aK (cd ?_))
  refine cn (D:=List Int×Int×Int×Unit) (fun d=>⟨look [(0,.ints .i64 d.1),(4,.int .i64 d.2.1),(5,.int .i64 d.2.2.1)],look []⟩) (fun K_ d=>P.aP.l0 K_ d.1 d.2.1 d.2.2.1=some r) ?_ _ (_,_,_,()) h (bm _ _ ⟨rfl,rfl,rfl,trivial⟩ trivial rfl)
  intro K5 ih6 d h
  obtain ⟨x0,x4,x5,_⟩:=d
  dsimp only at h ⊢
  cases K5 with
  | zero=>exact absurd h (by simp [P.aP.l0])
  | succ m7 =>
   simp only [P.aP.l0] at h
   refine bK (ae (ae (ab ?_)))
   iterate 2 refine o1 ?_
   refine aa ?_
   refine aL rfl (fun hb=>?_) (fun hb=>?_)
   ·skip
    obtain ⟨c8,h⟩:=tkT h hb
    have g9:=hb
    clear hb
    obtain ⟨q10,h⟩:=ao h
    obtain ⟨q11,h⟩:=ao h
    refine aN (ae (aK (ab ?_)))
    iterate 8 refine o1 ?_
    refine aa (ab ?_)
    iterate 3 refine o1 ?_
    refine aa ?_
    exact aW (ih6 m7 (by omega) (_,_,_,()) h) ⟨rfl,rfl,rfl,trivial⟩ trivial rfl
   ·skip
    obtain ⟨c12,h⟩:=tkF h hb
    have g13:=hb
    clear hb
    refine bM (ae (ab ?_))
    iterate 3 refine o1 ?_
    refine aa ?_
    obtain rfl:=Option.some.inj h
    exact bh ⟨.inl rfl,.two (.tmp rt) (.tmp rt) rfl rfl⟩
instance:FN Tryz.prog 118:=⟨⟨_,Tryz.func118,by decide,by simp [Tryz.f118]⟩⟩
set_option maxRecDepth 100000 in
set_option maxHeartbeats 4000000 in
theorem cV.o (l0:List Int) (r:List Int) (h:P.cV.f l0=some r):FnO Tryz.prog 118 [.ints .i64 l0] (gi 3 .i64 r):=by
 unfold P.cV.f at h
 replace h:=bsome h
 obtain ⟨q1,h⟩:=ao h
 obtain rfl:=Option.some.inj h
 refine Cr Tryz.func118 rfl (Nat.le_of_ble_eq_true rfl) rfl ?_
 intro X hX
 refine ae (ab (o1 (aa ?_)))
 refine ae (ae (ab (o1 (op_isnil rfl rfl UL.h rfl (ib hX (by decide)) (fun b hb=>aa (aL rfl (fun h1=>?_) (fun h1=>?_)))))))
 ·obtain rfl:l0=[]:=List.eq_nil_of_length_eq_zero (hb h1).1
  refine ae (ab ?_)
  refine dA rfl (wu 3 .i64 (.inr rfl) rfl rfl (ib hX (by decide))) ?_
  refine aa (bh ⟨.inl rfl,2,by decide,rfl,rfl⟩)
 ·refine aN (ae (ab ?_))
  refine dA rfl (CH rfl rfl rfl (ib hX (by decide))) ?_
  refine o1 ?_
  refine dA rfl (AF rfl rfl rfl rfl UL.h IF.h rfl rfl rfl rfl bl bl (by decide) (ib hX (by decide))) ?_
  refine o1 ?_
  refine aa (bh ⟨.inl rfl,5,by decide,rfl,rfl⟩)
instance:FN Tryz.prog 97:=⟨⟨_,Tryz.func97,by decide,by simp [Tryz.f97]⟩⟩
set_option maxRecDepth 100000 in
set_option maxHeartbeats 4000000 in
theorem aJ.v (k:Nat) (l0:List Int) (l1:List Int) (r:List Int) (h:P.aJ.f k l0 l1=some r):Fn Tryz.prog 97 [.ints .i64 l0,.ints .i64 l1] (.ints .i64 r):=by
 refine bY Tryz.func97 rfl (Nat.le_of_ble_eq_true rfl) ?_
 intro X hX
 unfold P.aJ.f at h
 refine ae (ab ?_)
 refine o1 ?_
 refine aa (ae (ab ?_))
 refine o1 ?_
 obtain ⟨t1,ht2,h⟩:=Option.bind_eq_some_iff.1 h
 refine opCO (cV.o _ _ ht2) ?_
 refine o1 ?_
 refine aa (ae (ab ?_))
 refine o1 ?_
 refine aa (ae (ae (ab ?_)))
 iterate 3 refine o1 ?_
 refine aa (aK (cd ?_))
 refine cn (D:=List Int×List Int×Int×Int×Int×Unit) (fun d=>⟨look [(1,.ints .i64 d.1),(5,.own 10),(6,.int .i64 d.2.2.1),(12,.int .i64 d.2.2.2.1),(13,.int .i64 d.2.2.2.2.1)],look [(10,gi 3 .i64 d.2.1)]⟩) (fun K_ d=>P.aJ.l0 K_ d.1 d.2.1 d.2.2.1 d.2.2.2.1 d.2.2.2.2.1=some r) ?_ _ (_,_,_,_,_,()) h (bm _ _ ⟨rfl,rfl,rfl,rfl,rfl,trivial⟩ ⟨rfl,trivial⟩ rfl)
 intro K3 ih4 d h
 obtain ⟨x1,x5,x6,x12,x13,_⟩:=d
 dsimp only at h ⊢
 cases K3 with
 | zero=>exact absurd h (by simp [P.aJ.l0])
 | succ m5 =>
  simp only [P.aJ.l0] at h
  refine bK (ae (ab ?_))
  refine o1 ?_
  refine aa (ae ?_)
  refine aL rfl (fun hb=>?_) (fun hb=>?_)
  ·skip
   obtain ⟨c6,h⟩:=tkT h hb
   have g7:=hb
   clear hb
   obtain ⟨q8,h⟩:=ao h
   obtain ⟨q9,h⟩:=ao h
   refine aN (ae (aK (ae (ab ?_))))
   iterate 2 refine o1 ?_
   refine aa (ae (ab ?_))
   iterate 7 refine o1 ?_
   refine aa (ae (ae (ab ?_)))
   iterate 4 refine o1 ?_
   refine aa ?_
   refine aL rfl (fun hb=>?_) (fun hb=>?_)
   ·skip
    obtain ⟨c10,h⟩:=tkT h hb
    have g11:=hb
    clear hb
    refine ab ?_
    iterate 7 refine o1 ?_
    refine aa (ae (ab ?_))
    refine o1 ?_
    refine aa (ae (ae (ab ?_)))
    iterate 2 refine o1 ?_
    refine aa ?_
    refine aL rfl (fun hb=>?_) (fun hb=>?_)
    ·skip
     obtain ⟨c12,h⟩:=tkT h hb
     have g13:=hb
     clear hb
     refine ae (ab ?_)
     iterate 3 refine o1 ?_
     refine aa (ab ?_)
     refine o1 ?_
     refine aa (ab ?_)
     iterate 5 refine o1 ?_
     refine aa (ab ?_)
     iterate 2 refine o1 ?_
     refine aa ?_
     exact aW (ih4 m5 (by omega) (_,_,_,_,_,()) h) ⟨rfl,rfl,rfl,rfl,rfl,trivial⟩ ⟨rfl,trivial⟩ rfl
    ·skip
     obtain ⟨c14,h⟩:=tkF h hb
     have g15:=hb
     clear hb
     refine aN (ab ?_)
     iterate 5 refine o1 ?_
     refine aa (ab ?_)
     iterate 2 refine o1 ?_
     refine aa ?_
     exact aW (ih4 m5 (by omega) (_,_,_,_,_,()) h) ⟨rfl,rfl,rfl,rfl,rfl,trivial⟩ ⟨rfl,trivial⟩ rfl
   ·skip
    obtain ⟨c16,h⟩:=tkF h hb
    have g17:=hb
    clear hb
    refine aN (ae (ab ?_))
    refine o1 ?_
    refine aa (ae (ae (ab ?_)))
    iterate 2 refine o1 ?_
    refine aa ?_
    refine aL rfl (fun hb=>?_) (fun hb=>?_)
    ·skip
     obtain ⟨c18,h⟩:=tkT h hb
     have g19:=hb
     clear hb
     refine ae (ab ?_)
     iterate 3 refine o1 ?_
     refine aa (ab ?_)
     refine o1 ?_
     refine aa (ab ?_)
     iterate 5 refine o1 ?_
     refine aa (ab ?_)
     iterate 2 refine o1 ?_
     refine aa ?_
     exact aW (ih4 m5 (by omega) (_,_,_,_,_,()) h) ⟨rfl,rfl,rfl,rfl,rfl,trivial⟩ ⟨rfl,trivial⟩ rfl
    ·skip
     obtain ⟨c20,h⟩:=tkF h hb
     have g21:=hb
     clear hb
     refine aN (ab ?_)
     iterate 5 refine o1 ?_
     refine aa (ab ?_)
     iterate 2 refine o1 ?_
     refine aa ?_
     exact aW (ih4 m5 (by omega) (_,_,_,_,_,()) h) ⟨rfl,rfl,rfl,rfl,rfl,trivial⟩ ⟨rfl,trivial⟩ rfl
  ·skip
   obtain ⟨c22,h⟩:=tkF h hb
   have g23:=hb
   clear hb
   refine bM (ae ?_)
   refine eJ (dz (k:=10) rfl) ?_
   refine ab ?_
   refine o1 ?_
   obtain ⟨t24,ht25,h⟩:=Option.bind_eq_some_iff.1 h
   refine opC (aS.v _ _ _ ht25) ?_
   refine o1 ?_
   refine aa ?_
   obtain rfl:=Option.some.inj h
   exact bh ⟨.inl rfl,.one (.tmp rt) rfl⟩
instance:FN Tryz.prog 120:=⟨⟨_,Tryz.func120,by decide,by simp [Tryz.f120]⟩⟩
set_option maxRecDepth 100000 in
set_option maxHeartbeats 4000000 in
theorem ak.v (k:Nat) (l0:List Int) (l1:List Int) (r:Int) (h:P.ak.f k l0 l1=some r):Fn Tryz.prog 120 [.ints .i64 l0,.ints .i64 l1] (.int .i64 r):=by
 refine bY Tryz.func120 rfl (Nat.le_of_ble_eq_true rfl) ?_
 intro X hX
 unfold P.ak.f at h
 refine ae (ab ?_)
 refine o1 ?_
 refine aa (ae (ab ?_))
 iterate 3 refine o1 ?_
 refine aa (ae (ab ?_))
 iterate 2 refine o1 ?_
 refine aa (ae (ae (ab ?_)))
 iterate 2 refine o1 ?_
 refine aa (aK (cd ?_))
 refine cn (D:=List Int×List Int×Int×Int×Int×Int×Unit) (fun d=>⟨look [(0,.ints .i64 d.1),(1,.ints .i64 d.2.1),(5,.int .i64 d.2.2.1),(6,.int .i64 d.2.2.2.1),(7,.int .i64 d.2.2.2.2.1),(8,.int .i64 d.2.2.2.2.2.1)],look []⟩) (fun K_ d=>P.ak.l0 K_ d.1 d.2.1 d.2.2.1 d.2.2.2.1 d.2.2.2.2.1 d.2.2.2.2.2.1=some r) ?_ _ (_,_,_,_,_,_,()) h (bm _ _ ⟨rfl,rfl,rfl,rfl,rfl,rfl,trivial⟩ trivial rfl)
 intro K1 ih2 d h
 obtain ⟨x0,x1,x5,x6,x7,x8,_⟩:=d
 dsimp only at h ⊢
 cases K1 with
 | zero=>exact absurd h (by simp [P.ak.l0])
 | succ m3 =>
  simp only [P.ak.l0] at h
  refine bK (ae (ae (ab ?_)))
  iterate 5 refine o1 ?_
  refine aa ?_
  refine aL rfl (fun hb=>?_) (fun hb=>?_)
  ·skip
   obtain ⟨c4,h⟩:=tkT h hb
   have g5:=hb
   clear hb
   refine aN (ae (aK (ae (ab ?_))))
   iterate 3 refine o1 ?_
   refine aa (ae (ab ?_))
   iterate 4 refine o1 ?_
   refine aa ?_
   refine aL rfl (fun hb=>?_) (fun hb=>?_)
   ·skip
    obtain ⟨c6,h⟩:=tkT h hb
    have g7:=hb
    clear hb
    obtain ⟨q8,h⟩:=ao h
    refine ab ?_
    iterate 7 refine o1 ?_
    refine aa (ab ?_)
    iterate 3 refine o1 ?_
    refine aa ?_
    exact aW (ih2 m3 (by omega) (_,_,_,_,_,_,()) h) ⟨rfl,rfl,rfl,rfl,rfl,rfl,trivial⟩ trivial rfl
   ·skip
    obtain ⟨c9,h⟩:=tkF h hb
    have g10:=hb
    clear hb
    refine aN (ab ?_)
    iterate 3 refine o1 ?_
    refine aa ?_
    exact aW (ih2 m3 (by omega) (_,_,_,_,_,_,()) h) ⟨rfl,rfl,rfl,rfl,rfl,rfl,trivial⟩ trivial rfl
  ·skip
   obtain ⟨c11,h⟩:=tkF h hb
   have g12:=hb
   clear hb
   refine bM (ae (ae (ab ?_)))
   iterate 3 refine o1 ?_
   refine aa (aK (cd ?_))
   refine cn (D:=List Int×List Int×Int×Int×Int×Int×Unit) (fun d=>⟨look [(0,.ints .i64 d.1),(1,.ints .i64 d.2.1),(5,.int .i64 d.2.2.1),(6,.int .i64 d.2.2.2.1),(7,.int .i64 d.2.2.2.2.1),(9,.int .i64 d.2.2.2.2.2.1)],look []⟩) (fun K_ d=>P.ak.l1 K_ d.1 d.2.1 d.2.2.1 d.2.2.2.1 d.2.2.2.2.1 d.2.2.2.2.2.1=some r∧K_≤m3) ?_ _ (_,_,_,_,_,_,()) ⟨h,by omega⟩ (bm _ _ ⟨rfl,rfl,rfl,rfl,rfl,rfl,trivial⟩ trivial rfl)
   intro K13 ih14 d h
   obtain ⟨h,b16⟩:=h
   obtain ⟨x0,x1,x5,x6,x7,x9,_⟩:=d
   dsimp only at h b16 ⊢
   cases K13 with
   | zero=>exact absurd h (by simp [P.ak.l1])
   | succ m15 =>
    simp only [P.ak.l1] at h
    refine bK (ae (ae (ab ?_)))
    iterate 5 refine o1 ?_
    refine aa ?_
    refine aL rfl (fun hb=>?_) (fun hb=>?_)
    ·skip
     obtain ⟨c17,h⟩:=tkT h hb
     have g18:=hb
     clear hb
     obtain ⟨q19,h⟩:=ao h
     obtain ⟨q20,h⟩:=ao h
     refine aN (ae (aK (ab ?_)))
     iterate 8 refine o1 ?_
     refine aa (ab ?_)
     iterate 3 refine o1 ?_
     refine aa ?_
     exact aW (ih14 m15 (by omega) (_,_,_,_,_,_,()) ⟨h,by omega⟩) ⟨rfl,rfl,rfl,rfl,rfl,rfl,trivial⟩ trivial rfl
    ·skip
     obtain ⟨c21,h⟩:=tkF h hb
     have g22:=hb
     clear hb
     refine bM (ae (ae (ab ?_)))
     iterate 2 refine o1 ?_
     refine aa ?_
     refine gR (D:=Nat×List Int×List Int×Int×Int×Unit) (fun d=>⟨look [(0,.ints .i64 d.2.1),(1,.ints .i64 d.2.2.1),(6,.int .i64 d.2.2.2.1),(7,.int .i64 d.2.2.2.2.1)],look []⟩) (fun d=>P.ak.j2 d.1 d.2.1 d.2.2.1 d.2.2.2.1 d.2.2.2.2.1=some r∧d.1≤m15) ?_ ?_
     ·skip
      rintro ⟨kq23,x0,x1,x6,x7,_⟩ ⟨h,b24⟩
      dsimp only at h b24 ⊢
      cases kq23 with
      | zero=>exact absurd h (by simp [P.ak.j2])
      | succ m25 =>
       simp only [P.ak.j2] at h
       obtain ⟨q26,h⟩:=iX h
       refine ae (ab ?_)
       iterate 5 refine o1 ?_
       refine aa (ae (aK (cd ?_)))
       refine cn (D:=List Int×List Int×Int×Unit) (fun d=>⟨look [(0,.ints .i64 d.1),(1,.ints .i64 d.2.1),(10,.int .i64 d.2.2.1)],look []⟩) (fun K_ d=>P.ak.l2 K_ d.1 d.2.1 d.2.2.1=some r∧K_≤m25) ?_ _ (_,_,_,()) ⟨h,by omega⟩ (bm _ _ ⟨rfl,rfl,rfl,trivial⟩ trivial rfl)
       intro K27 ih28 d h
       obtain ⟨h,b30⟩:=h
       obtain ⟨x0,x1,x10,_⟩:=d
       dsimp only at h b30 ⊢
       cases K27 with
       | zero=>exact absurd h (by simp [P.ak.l2])
       | succ m29 =>
        simp only [P.ak.l2] at h
        refine bK (ae (ae (ab ?_)))
        iterate 2 refine o1 ?_
        obtain ⟨t31,ht32,h⟩:=Option.bind_eq_some_iff.1 h
        refine opC (ax.v _ _ _ _ _ ht32) ?_
        refine o1 ?_
        obtain ⟨t33,ht34,h⟩:=Option.bind_eq_some_iff.1 h
        refine opC (aG.v _ _ _ _ ht34) ?_
        refine o1 ?_
        refine aa ?_
        refine aL rfl (fun hb=>?_) (fun hb=>?_)
        ·skip
         obtain ⟨c35,h⟩:=tkT h hb
         have g36:=hb
         clear hb
         refine aN (aK (ab ?_))
         iterate 3 refine o1 ?_
         refine aa ?_
         exact aW (ih28 m29 (by omega) (_,_,_,()) ⟨h,by omega⟩) ⟨rfl,rfl,rfl,trivial⟩ trivial rfl
        ·skip
         obtain ⟨c37,h⟩:=tkF h hb
         have g38:=hb
         clear hb
         refine bM (ae (aK (cd ?_)))
         refine cn (D:=List Int×List Int×Int×Unit) (fun d=>⟨look [(0,.ints .i64 d.1),(1,.ints .i64 d.2.1),(10,.int .i64 d.2.2.1)],look []⟩) (fun K_ d=>P.ak.l3 K_ d.1 d.2.1 d.2.2.1=some r∧K_≤m29) ?_ _ (_,_,_,()) ⟨h,by omega⟩ (bm _ _ ⟨rfl,rfl,rfl,trivial⟩ trivial rfl)
         intro K39 ih40 d h
         obtain ⟨h,b42⟩:=h
         obtain ⟨x0,x1,x10,_⟩:=d
         dsimp only at h b42 ⊢
         cases K39 with
         | zero=>exact absurd h (by simp [P.ak.l3])
         | succ m41 =>
          simp only [P.ak.l3] at h
          refine bK (ae (ae (ab ?_)))
          iterate 4 refine o1 ?_
          refine og rfl rfl rfl rfl (fun hb=>?_) (fun hb=>?_)
          ·skip
           obtain ⟨c43,h⟩:=tkT h hb
           have g44:=hb
           clear hb
           iterate 3 refine oT ?_
           obtain ⟨t45,ht46,h⟩:=Option.bind_eq_some_iff.1 h
           refine opCT (ax.v _ _ _ _ _ ht46) ?_
           refine oT ?_
           obtain ⟨t47,ht48,h⟩:=Option.bind_eq_some_iff.1 h
           refine opCT (aG.v _ _ _ _ ht48) ?_
           refine oT ?_
           refine o1 ?_
           refine aa ?_
           refine aL rfl (fun hb=>?_) (fun hb=>?_)
           ·skip
            obtain ⟨c49,h⟩:=tkT h hb
            have g50:=hb
            clear hb
            refine aN (aK (ab ?_))
            iterate 3 refine o1 ?_
            refine aa ?_
            exact aW (ih40 m41 (by omega) (_,_,_,()) ⟨h,by omega⟩) ⟨rfl,rfl,rfl,trivial⟩ trivial rfl
           ·skip
            obtain ⟨c51,h⟩:=tkF h hb
            have g52:=hb
            clear hb
            refine bM (ae (ab ?_))
            iterate 2 refine o1 ?_
            refine aa ?_
            obtain rfl:=Option.some.inj h
            exact bh ⟨.inl rfl,.one (.tmp rt) rfl⟩
          ·skip
           obtain ⟨c53,h⟩:=tkF h hb
           have g54:=hb
           clear hb
           iterate 7 refine opS ?_
           refine o1 ?_
           refine aa ?_
           refine aL rfl (fun hb=>?_) (fun hb=>?_)
           ·skip
            first | cases hb | (simp_all;done)
           ·skip
            refine bM (ae (ab ?_))
            iterate 2 refine o1 ?_
            refine aa ?_
            obtain rfl:=Option.some.inj h
            exact bh ⟨.inl rfl,.one (.tmp rt) rfl⟩
     ·skip
      refine aL rfl (fun hb=>?_) (fun hb=>?_)
      ·skip
       obtain ⟨c55,h⟩:=tkT h hb
       have g56:=hb
       clear hb
       obtain ⟨q57,h⟩:=ao h
       refine ab ?_
       iterate 4 refine o1 ?_
       refine aa ?_
       exact ⟨(m15,_,_,_,_,()),⟨h,by omega⟩,bm _ _ ⟨rfl,rfl,rfl,rfl,trivial⟩ trivial rfl⟩
      ·skip
       obtain ⟨c58,h⟩:=tkF h hb
       have g59:=hb
       clear hb
       refine aN ?_
       exact ⟨(m15,_,_,_,_,()),⟨h,by omega⟩,bm _ _ ⟨rfl,rfl,rfl,rfl,trivial⟩ trivial rfl⟩
instance:FN Tryz.prog 104:=⟨⟨_,Tryz.func104,by decide,by simp [Tryz.f104]⟩⟩
set_option maxRecDepth 100000 in
set_option maxHeartbeats 4000000 in
theorem aE.v (k:Nat) (l0:List Int) (l1:List Int) (r:List Int×List Int) (h:P.aE.f k l0 l1=some r):Fn Tryz.prog 104 [.ints .i64 l0,.ints .i64 l1] (.tup [.ints .i64 r.1,.ints .i64 r.2]):=by
 refine bY Tryz.func104 rfl (Nat.le_of_ble_eq_true rfl) ?_
 intro X hX
 unfold P.aE.f at h
 refine ae (ab ?_)
 iterate 2 refine o1 ?_
 refine aa (ae (ae (ab ?_)))
 iterate 2 refine o1 ?_
 obtain ⟨t1,ht2,h⟩:=Option.bind_eq_some_iff.1 h
 refine opC (aG.v _ _ _ _ ht2) ?_
 refine o1 ?_
 refine aa ?_
 refine aL rfl (fun hb=>?_) (fun hb=>?_)
 ·skip
  obtain ⟨c3,h⟩:=tkT h hb
  have g4:=hb
  clear hb
  refine ae (ab ?_)
  iterate 4 refine o1 ?_
  refine aa ?_
  obtain rfl:=Option.some.inj h
  exact bh ⟨.inl rfl,.two (.tmp rt) (.tmp rt) rfl rfl⟩
 ·skip
  obtain ⟨c5,h⟩:=tkF h hb
  have g6:=hb
  clear hb
  refine aN (ae (ae (ab ?_)))
  refine o1 ?_
  obtain ⟨t7,ht8,h⟩:=Option.bind_eq_some_iff.1 h
  refine opC (aP.v _ _ _ ht8) ?_
  iterate 5 refine o1 ?_
  refine aa (ae (ab ?_))
  refine o1 ?_
  refine aa ?_
  refine aL rfl (fun hb=>?_) (fun hb=>?_)
  ·skip
   obtain ⟨c9,h⟩:=tkT h hb
   have g10:=hb
   clear hb
   refine ae (ab ?_)
   refine o1 ?_
   obtain ⟨t11,ht12,h⟩:=Option.bind_eq_some_iff.1 h
   refine opC (aP.v _ _ _ ht12) ?_
   obtain ⟨q13,h⟩:=iX h
   iterate 5 refine o1 ?_
   refine aa (ae ?_)
   refine sim_dr [m4 [6] [] [32] [],m4 [8] [] [33] [],m4 [32,33] [] [34] [],m4 [34] [] [35] [],m4 [6] [] [36] [],m4 [8] [] [37] [],m4 [36,37] [] [38] [],m4 [38] [] [39] [],m4 [35] [] [4] [],m4 [39] [] [5] []] [[],[],[0,1],[0,1,2],[],[],[4,5],[0,1,2,3,4,5,6],[0,1,2,3,4,5,6,7],[0,1,2,3,4,5,6,7,8]] ?_
   refine dG [(6,_)] [] [(32,_)] [] ⟨rfl,trivial⟩ trivial (fun S0=>dj rfl rfl ow rfl) ?_
   refine dG [(8,_)] [] [(33,_)] [] ⟨rfl,trivial⟩ trivial (fun S0=>dj rfl rfl ow rfl) ?_
   refine dG [(32,_),(33,_)] [] [(34,_)] [] ⟨rfl,rfl,trivial⟩ trivial (fun S0=>dj rfl rfl ow rfl) ?_
   obtain ⟨t14,ht15,h⟩:=Option.bind_eq_some_iff.1 h
   refine dG [(34,_)] [] [(35,_)] [] ⟨rfl,trivial⟩ trivial (fun S0=>dj rfl rfl (oc (aH.v _ _ _ ht15)) rfl) ?_
   refine dG [(6,_)] [] [(36,_)] [] ⟨rfl,trivial⟩ trivial (fun S0=>dj rfl rfl ow rfl) ?_
   refine dG [(8,_)] [] [(37,_)] [] ⟨rfl,trivial⟩ trivial (fun S0=>dj rfl rfl ow rfl) ?_
   refine dG [(36,_),(37,_)] [] [(38,_)] [] ⟨rfl,rfl,trivial⟩ trivial (fun S0=>dj rfl rfl ow rfl) ?_
   obtain ⟨t16,ht17,h⟩:=Option.bind_eq_some_iff.1 h
   refine dG [(38,_)] [] [(39,_)] [] ⟨rfl,trivial⟩ trivial (fun S0=>dj rfl rfl (oc (aH.v _ _ _ ht17)) rfl) ?_
   refine dG [(35,_)] [] [(4,_)] [] ⟨rfl,trivial⟩ trivial (fun S0=>dj rfl rfl ow rfl) ?_
   refine dG [(39,_)] [] [(5,_)] [] ⟨rfl,trivial⟩ trivial (fun S0=>dj rfl rfl ow rfl) ?_
   refine dn ?_
   obtain rfl:=Option.some.inj h
   exact bh ⟨.inl rfl,.two (.tmp rt) (.tmp rt) rfl rfl⟩
  ·skip
   obtain ⟨c18,h⟩:=tkF h hb
   have g19:=hb
   clear hb
   refine aN (ae (ae (ab ?_)))
   iterate 3 refine o1 ?_
   refine aa ?_
   refine aL rfl (fun hb=>?_) (fun hb=>?_)
   ·skip
    obtain ⟨c20,h⟩:=tkT h hb
    have g21:=hb
    clear hb
    obtain ⟨q22,h⟩:=ao h
    refine ae (ab ?_)
    iterate 4 refine o1 ?_
    obtain ⟨t23,ht24,h⟩:=Option.bind_eq_some_iff.1 h
    refine opC (ba.v _ _ _ _ ht24) ?_
    iterate 5 refine o1 ?_
    refine aa (ae (ab ?_))
    iterate 2 refine o1 ?_
    obtain ⟨t25,ht26,h⟩:=Option.bind_eq_some_iff.1 h
    refine opC (aH.v _ _ _ ht26) ?_
    iterate 2 refine o1 ?_
    refine aa ?_
    obtain rfl:=Option.some.inj h
    exact bh ⟨.inl rfl,.two (.tmp rt) (.tmp rt) rfl rfl⟩
   ·skip
    obtain ⟨c27,h⟩:=tkF h hb
    have g28:=hb
    clear hb
    obtain ⟨q29,h⟩:=ao h
    obtain ⟨q30,h⟩:=ao h
    refine aN (ae (ab ?_))
    iterate 4 refine o1 ?_
    refine aa (ae (ab ?_))
    iterate 2 refine o1 ?_
    refine aa (ae (ae (ab ?_)))
    iterate 4 refine o1 ?_
    refine aa (aK (cd ?_))
    refine cn (D:=List Int×List Int×List Int×List Int×Int×Unit) (fun d=>⟨look [(0,.ints .i64 d.1),(1,.ints .i64 d.2.1),(12,.own 56),(13,.ints .i64 d.2.2.2.1),(14,.int .i64 d.2.2.2.2.1)],look [(56,gi 3 .i64 d.2.2.1)]⟩) (fun K_ d=>P.aE.l0 K_ d.1 d.2.1 d.2.2.1 d.2.2.2.1 d.2.2.2.2.1=some r) ?_ _ (_,_,_,_,_,()) h (bm _ _ ⟨rfl,rfl,rfl,rfl,rfl,trivial⟩ ⟨rfl,trivial⟩ rfl)
    intro K31 ih32 d h
    obtain ⟨x0,x1,x12,x13,x14,_⟩:=d
    dsimp only at h ⊢
    cases K31 with
    | zero=>exact absurd h (by simp [P.aE.l0])
    | succ m33 =>
     simp only [P.aE.l0] at h
     refine bK (ae (ae (ab ?_)))
     iterate 2 refine o1 ?_
     refine aa ?_
     refine aL rfl (fun hb=>?_) (fun hb=>?_)
     ·skip
      obtain ⟨c34,h⟩:=tkT h hb
      have g35:=hb
      clear hb
      obtain ⟨q36,h⟩:=ao h
      obtain ⟨q37,h⟩:=ao h
      refine aN (ae (aK (ae (ab ?_))))
      iterate 5 refine o1 ?_
      obtain ⟨t38,ht39,h⟩:=Option.bind_eq_some_iff.1 h
      refine opC (ax.v _ _ _ _ _ ht39) ?_
      refine o1 ?_
      refine aa (ae (ae (ab ?_)))
      iterate 2 refine o1 ?_
      obtain ⟨t40,ht41,h⟩:=Option.bind_eq_some_iff.1 h
      refine opC (aG.v _ _ _ _ ht41) ?_
      refine o1 ?_
      refine aa ?_
      refine aL rfl (fun hb=>?_) (fun hb=>?_)
      ·skip
       obtain ⟨c42,h⟩:=tkT h hb
       have g43:=hb
       clear hb
       refine bM (ab ?_)
       iterate 3 refine o1 ?_
       refine aa ?_
       exact aW (ih32 m33 (by omega) (_,_,_,_,_,()) h) ⟨rfl,rfl,rfl,rfl,rfl,trivial⟩ ⟨rfl,trivial⟩ rfl
      ·skip
       obtain ⟨c44,h⟩:=tkF h hb
       have g45:=hb
       clear hb
       refine aN (ae (ab ?_))
       iterate 4 refine o1 ?_
       obtain ⟨t46,ht47,h⟩:=Option.bind_eq_some_iff.1 h
       refine opC (ak.v _ _ _ _ ht47) ?_
       obtain ⟨q48,h⟩:=ao h
       replace h:=bsome h
       iterate 2 refine o1 ?_
       refine aa (ab ?_)
       iterate 6 refine o1 ?_
       obtain ⟨t49,ht50,h⟩:=Option.bind_eq_some_iff.1 h
       refine opC (ax.v _ _ _ _ _ ht50) ?_
       obtain ⟨t51,ht52,h⟩:=Option.bind_eq_some_iff.1 h
       refine opC (aJ.v _ _ _ _ ht52) ?_
       refine o1 ?_
       refine aa (ab ?_)
       iterate 3 refine o1 ?_
       refine aa ?_
       exact aW (ih32 m33 (by omega) (_,_,_,_,_,()) h) ⟨rfl,rfl,rfl,rfl,rfl,trivial⟩ ⟨rfl,trivial⟩ rfl
     ·skip
      obtain ⟨c53,h⟩:=tkF h hb
      have g54:=hb
      clear hb
      refine bM (ae ?_)
      refine eJ (dz (k:=56) rfl) ?_
      refine ab ?_
      refine o1 ?_
      obtain ⟨t55,ht56,h⟩:=Option.bind_eq_some_iff.1 h
      refine opC (aS.v _ _ _ ht56) ?_
      iterate 3 refine o1 ?_
      refine aa ?_
      obtain rfl:=Option.some.inj h
      exact bh ⟨.inl rfl,.two (.tmp rt) (.tmp rt) rfl rfl⟩
instance:FN Tryz.prog 73:=⟨⟨_,Tryz.func73,by decide,by simp [Tryz.f73]⟩⟩
set_option maxRecDepth 100000 in
set_option maxHeartbeats 4000000 in
theorem ay.v (k:Nat) (l0:List Int) (l1:List Int) (r:List Int) (h:P.ay.f k l0 l1=some r):Fn Tryz.prog 73 [.ints .i64 l0,.ints .i64 l1] (.ints .i64 r):=by
 refine bY Tryz.func73 rfl (Nat.le_of_ble_eq_true rfl) ?_
 intro X hX
 unfold P.ay.f at h
 refine ae (ab ?_)
 refine o1 ?_
 refine aa (ae (aK (cd ?_)))
 refine cn (D:=List Int×List Int×Unit) (fun d=>⟨look [(0,.ints .i64 d.1),(1,.ints .i64 d.2.1)],look []⟩) (fun K_ d=>P.ay.l0 K_ d.1 d.2.1=some r) ?_ _ (_,_,()) h (bm _ _ ⟨rfl,rfl,trivial⟩ trivial rfl)
 intro K1 ih2 d h
 obtain ⟨x0,x1,_⟩:=d
 dsimp only at h ⊢
 cases K1 with
 | zero=>exact absurd h (by simp [P.ay.l0])
 | succ m3 =>
  simp only [P.ay.l0] at h
  refine bK (ae (ae (ab ?_)))
  iterate 3 refine o1 ?_
  refine aa ?_
  refine aL rfl (fun hb=>?_) (fun hb=>?_)
  ·skip
   obtain ⟨c4,h⟩:=tkT h hb
   have g5:=hb
   clear hb
   refine aN (aK (ae (ab ?_)))
   refine o1 ?_
   obtain ⟨t6,ht7,h⟩:=Option.bind_eq_some_iff.1 h
   refine opC (aP.v _ _ _ ht7) ?_
   iterate 5 refine o1 ?_
   refine aa (ae (ab ?_))
   refine o1 ?_
   obtain ⟨t8,ht9,h⟩:=Option.bind_eq_some_iff.1 h
   refine opC (aP.v _ _ _ ht9) ?_
   iterate 5 refine o1 ?_
   refine aa (ae (ae ?_))
   refine gR (D:=Nat×List Int×List Int×Int×Int×Bool×Unit) (fun d=>⟨look [(0,.ints .i64 d.2.1),(1,.ints .i64 d.2.2.1),(5,.int .i64 d.2.2.2.1),(7,.int .i64 d.2.2.2.2.1),(27,.bool d.2.2.2.2.2.1)],look []⟩) (fun d=>P.ay.j1 d.1 d.2.1 d.2.2.1 d.2.2.2.1 d.2.2.2.2.1 d.2.2.2.2.2.1=some r∧d.1≤m3) ?_ ?_
   ·skip
    rintro ⟨kq10,x0,x1,x5,x7,x27,_⟩ ⟨h,b11⟩
    dsimp only at h b11 ⊢
    cases kq10 with
    | zero=>exact absurd h (by simp [P.ay.j1])
    | succ m12 =>
     simp only [P.ay.j1] at h
     refine aL rfl (fun hb=>?_) (fun hb=>?_)
     ·skip
      obtain ⟨c13,h⟩:=tkT h hb
      have g14:=hb
      clear hb
      refine ae (aK (cd ?_))
      refine cn (D:=Int×Int×Unit) (fun d=>⟨look [(5,.int .i64 d.1),(7,.int .i64 d.2.1)],look []⟩) (fun K_ d=>P.ay.l1 K_ d.1 d.2.1=some r∧K_≤m12) ?_ _ (_,_,()) ⟨h,by omega⟩ (bm _ _ ⟨rfl,rfl,trivial⟩ trivial rfl)
      intro K15 ih16 d h
      obtain ⟨h,b18⟩:=h
      obtain ⟨x5,x7,_⟩:=d
      dsimp only at h b18 ⊢
      cases K15 with
      | zero=>exact absurd h (by simp [P.ay.l1])
      | succ m17 =>
       simp only [P.ay.l1] at h
       refine bK (ae (ae (ab ?_)))
       iterate 2 refine o1 ?_
       refine aa ?_
       refine aL rfl (fun hb=>?_) (fun hb=>?_)
       ·skip
        obtain ⟨c19,h⟩:=tkT h hb
        have g20:=hb
        clear hb
        obtain ⟨q21,h⟩:=iX h
        refine aN (aK (fT ?_))
        iterate 6 refine s1 ?_
        refine lR ?_
        exact aW (ih16 m17 (by omega) (_,_,()) ⟨h,by omega⟩) ⟨rfl,rfl,trivial⟩ trivial rfl
       ·skip
        obtain ⟨c22,h⟩:=tkF h hb
        have g23:=hb
        clear hb
        refine bM (ae (ab ?_))
        refine o1 ?_
        obtain ⟨t24,ht25,h⟩:=Option.bind_eq_some_iff.1 h
        refine opC (aH.v _ _ _ ht25) ?_
        refine o1 ?_
        refine aa ?_
        obtain rfl:=Option.some.inj h
        exact bh ⟨.inl rfl,.one (.tmp rt) rfl⟩
     ·skip
      obtain ⟨c26,h⟩:=tkF h hb
      have g27:=hb
      clear hb
      refine aN (ae (ab ?_))
      iterate 2 refine o1 ?_
      obtain ⟨t28,ht29,h⟩:=Option.bind_eq_some_iff.1 h
      refine opC (aE.v _ _ _ _ ht29) ?_
      iterate 5 refine o1 ?_
      refine aa (ab ?_)
      iterate 4 refine o1 ?_
      refine aa ?_
      exact aW (ih2 m12 (by omega) (_,_,()) h) ⟨rfl,rfl,trivial⟩ trivial rfl
   ·skip
    refine ab ?_
    iterate 2 refine o1 ?_
    refine og rfl rfl rfl rfl (fun hb=>?_) (fun hb=>?_)
    ·skip
     obtain ⟨c30,h⟩:=tkT h hb
     have g31:=hb
     clear hb
     refine oT ?_
     refine o1 ?_
     refine aa ?_
     exact ⟨(m3,_,_,_,_,_,()),⟨h,by omega⟩,bm _ _ ⟨rfl,rfl,rfl,rfl,rfl,trivial⟩ trivial rfl⟩
    ·skip
     obtain ⟨c32,h⟩:=tkF h hb
     have g33:=hb
     clear hb
     refine opS ?_
     refine o1 ?_
     refine aa ?_
     exact ⟨(m3,_,_,_,_,_,()),⟨h,by omega⟩,bm _ _ ⟨rfl,rfl,rfl,rfl,rfl,trivial⟩ trivial rfl⟩
  ·skip
   obtain ⟨c34,h⟩:=tkF h hb
   have g35:=hb
   clear hb
   refine bM (ae (ab ?_))
   iterate 2 refine o1 ?_
   refine aa ?_
   obtain rfl:=Option.some.inj h
   exact bh ⟨.inl rfl,.one (.tmp rt) rfl⟩
instance:FN Tryz.prog 94:=⟨⟨_,Tryz.func94,by decide,by simp [Tryz.f94]⟩⟩
set_option maxRecDepth 100000 in
set_option maxHeartbeats 4000000 in
theorem aq.v (k:Nat) (l0:List Int) (l1:List Int) (r:List Int) (h:P.aq.f k l0 l1=some r):Fn Tryz.prog 94 [.ints .i64 l0,.ints .i64 l1] (.ints .i64 r):=by
 refine bY Tryz.func94 rfl (Nat.le_of_ble_eq_true rfl) ?_
 intro X hX
 unfold P.aq.f at h
 obtain ⟨q1,h⟩:=ao h
 obtain ⟨q2,h⟩:=ao h
 refine ae (ab ?_)
 refine o1 ?_
 refine aa (ae (ab ?_))
 iterate 8 refine o1 ?_
 refine aa (ae (ae (ab ?_)))
 iterate 3 refine o1 ?_
 refine aa (aK (cd ?_))
 refine cn (D:=List Int×List Int×List Int×Int×Int×Unit) (fun d=>⟨look [(1,.ints .i64 d.1),(5,.own 18),(19,.ints .i64 d.2.2.1),(20,.int .i64 d.2.2.2.1),(21,.int .i64 d.2.2.2.2.1)],look [(18,gi 3 .i64 d.2.1)]⟩) (fun K_ d=>P.aq.l0 K_ d.1 d.2.1 d.2.2.1 d.2.2.2.1 d.2.2.2.2.1=some r) ?_ _ (_,_,_,_,_,()) h (bm _ _ ⟨rfl,rfl,rfl,rfl,rfl,trivial⟩ ⟨rfl,trivial⟩ rfl)
 intro K3 ih4 d h
 obtain ⟨x1,x5,x19,x20,x21,_⟩:=d
 dsimp only at h ⊢
 cases K3 with
 | zero=>exact absurd h (by simp [P.aq.l0])
 | succ m5 =>
  simp only [P.aq.l0] at h
  refine bK (ae (ab ?_))
  refine o1 ?_
  refine aa (ae ?_)
  refine aL rfl (fun hb=>?_) (fun hb=>?_)
  ·skip
   obtain ⟨c6,h⟩:=tkT h hb
   have g7:=hb
   clear hb
   obtain ⟨q8,h⟩:=ao h
   obtain ⟨q9,h⟩:=ao h
   refine aN (ae (aK (ae (ab ?_))))
   iterate 5 refine o1 ?_
   refine aa (ae (ab ?_))
   refine o1 ?_
   refine aa (ae (ae (ab ?_)))
   iterate 3 refine o1 ?_
   refine aa (aK (cd ?_))
   refine cn (D:=List Int×List Int×Int×Int×Int×List Int×Int×Int×List Int×Int×Int×Unit) (fun d=>⟨look [(1,.ints .i64 d.1),(5,.own 18),(6,.int .i64 d.2.2.1),(7,.int .i64 d.2.2.2.1),(8,.int .i64 d.2.2.2.2.1),(19,.ints .i64 d.2.2.2.2.2.1),(20,.int .i64 d.2.2.2.2.2.2.1),(21,.int .i64 d.2.2.2.2.2.2.2.1),(26,.ints .i64 d.2.2.2.2.2.2.2.2.1),(27,.int .i64 d.2.2.2.2.2.2.2.2.2.1),(28,.int .i64 d.2.2.2.2.2.2.2.2.2.2.1)],look [(18,gi 3 .i64 d.2.1)]⟩) (fun K_ d=>P.aq.l1 K_ d.1 d.2.1 d.2.2.1 d.2.2.2.1 d.2.2.2.2.1 d.2.2.2.2.2.1 d.2.2.2.2.2.2.1 d.2.2.2.2.2.2.2.1 d.2.2.2.2.2.2.2.2.1 d.2.2.2.2.2.2.2.2.2.1 d.2.2.2.2.2.2.2.2.2.2.1=some r∧K_≤m5) ?_ _ (_,_,_,_,_,_,_,_,_,_,_,()) ⟨h,by omega⟩ (bm _ _ ⟨rfl,rfl,rfl,rfl,rfl,rfl,rfl,rfl,rfl,rfl,rfl,trivial⟩ ⟨rfl,trivial⟩ rfl)
   intro K10 ih11 d h
   obtain ⟨h,b13⟩:=h
   obtain ⟨x1,x5,x6,x7,x8,x19,x20,x21,x26,x27,x28,_⟩:=d
   dsimp only at h b13 ⊢
   cases K10 with
   | zero=>exact absurd h (by simp [P.aq.l1])
   | succ m12 =>
    simp only [P.aq.l1] at h
    refine bK (ae (ab ?_))
    refine o1 ?_
    refine aa (ae ?_)
    refine aL rfl (fun hb=>?_) (fun hb=>?_)
    ·skip
     obtain ⟨c14,h⟩:=tkT h hb
     have g15:=hb
     clear hb
     obtain ⟨q16,h⟩:=ao h
     obtain ⟨q17,h⟩:=ao h
     obtain ⟨q18,h⟩:=ao h
     obtain ⟨q19,h⟩:=ao h
     refine aN (ae (aK (ae (ab ?_))))
     iterate 5 refine o1 ?_
     refine aa (ae (ab ?_))
     iterate 13 refine o1 ?_
     refine aa (ae (ab ?_))
     iterate 8 refine o1 ?_
     refine aa (ab ?_)
     iterate 3 refine o1 ?_
     refine aa (ab ?_)
     iterate 2 refine o1 ?_
     refine aa ?_
     exact aW (ih11 m12 (by omega) (_,_,_,_,_,_,_,_,_,_,_,()) ⟨h,by omega⟩) ⟨rfl,rfl,rfl,rfl,rfl,rfl,rfl,rfl,rfl,rfl,rfl,trivial⟩ ⟨rfl,trivial⟩ rfl
    ·skip
     obtain ⟨c20,h⟩:=tkF h hb
     have g21:=hb
     clear hb
     refine bM (ae (ab ?_))
     iterate 5 refine o1 ?_
     refine aa (aK (cd ?_))
     refine cn (D:=List Int×List Int×Int×Int×List Int×Int×Int×Unit) (fun d=>⟨look [(1,.ints .i64 d.1),(5,.own 18),(8,.int .i64 d.2.2.1),(11,.int .i64 d.2.2.2.1),(19,.ints .i64 d.2.2.2.2.1),(20,.int .i64 d.2.2.2.2.2.1),(21,.int .i64 d.2.2.2.2.2.2.1)],look [(18,gi 3 .i64 d.2.1)]⟩) (fun K_ d=>P.aq.l2 K_ d.1 d.2.1 d.2.2.1 d.2.2.2.1 d.2.2.2.2.1 d.2.2.2.2.2.1 d.2.2.2.2.2.2.1=some r∧K_≤m12) ?_ _ (_,_,_,_,_,_,_,()) ⟨h,by omega⟩ (bm _ _ ⟨rfl,rfl,rfl,rfl,rfl,rfl,rfl,trivial⟩ ⟨rfl,trivial⟩ rfl)
     intro K22 ih23 d h
     obtain ⟨h,b25⟩:=h
     obtain ⟨x1,x5,x8,x11,x19,x20,x21,_⟩:=d
     dsimp only at h b25 ⊢
     cases K22 with
     | zero=>exact absurd h (by simp [P.aq.l2])
     | succ m24 =>
      simp only [P.aq.l2] at h
      refine bK (ae (ae (ab ?_)))
      iterate 2 refine o1 ?_
      refine aa ?_
      refine aL rfl (fun hb=>?_) (fun hb=>?_)
      ·skip
       obtain ⟨c26,h⟩:=tkT h hb
       have g27:=hb
       clear hb
       obtain ⟨q28,h⟩:=ao h
       obtain ⟨q29,h⟩:=ao h
       refine aN (ae (aK (ae (ab ?_))))
       iterate 7 refine o1 ?_
       refine aa (ae (ab ?_))
       iterate 6 refine o1 ?_
       refine aa (ab ?_)
       iterate 3 refine o1 ?_
       refine aa (ab ?_)
       iterate 3 refine o1 ?_
       refine aa ?_
       exact aW (ih23 m24 (by omega) (_,_,_,_,_,_,_,()) ⟨h,by omega⟩) ⟨rfl,rfl,rfl,rfl,rfl,rfl,rfl,trivial⟩ ⟨rfl,trivial⟩ rfl
      ·skip
       obtain ⟨c30,h⟩:=tkF h hb
       have g31:=hb
       clear hb
       refine bM (ab ?_)
       iterate 2 refine o1 ?_
       refine aa ?_
       exact aW (ih4 m24 (by omega) (_,_,_,_,_,()) h) ⟨rfl,rfl,rfl,rfl,rfl,trivial⟩ ⟨rfl,trivial⟩ rfl
  ·skip
   obtain ⟨c32,h⟩:=tkF h hb
   have g33:=hb
   clear hb
   refine bM (ae ?_)
   refine eJ (dz (k:=18) rfl) ?_
   refine ab ?_
   refine o1 ?_
   obtain ⟨t34,ht35,h⟩:=Option.bind_eq_some_iff.1 h
   refine opC (aS.v _ _ _ ht35) ?_
   refine o1 ?_
   refine aa ?_
   obtain rfl:=Option.some.inj h
   exact bh ⟨.inl rfl,.one (.tmp rt) rfl⟩
instance:FN Tryz.prog 96:=⟨⟨_,Tryz.func96,by decide,by simp [Tryz.f96]⟩⟩
set_option maxRecDepth 100000 in
set_option maxHeartbeats 4000000 in
theorem aC.v (k:Nat) (l0:List Int) (l1:List Int) (r:List Int) (h:P.aC.f k l0 l1=some r):Fn Tryz.prog 96 [.ints .i64 l0,.ints .i64 l1] (.ints .i64 r):=by
 refine bY Tryz.func96 rfl (Nat.le_of_ble_eq_true rfl) ?_
 intro X hX
 unfold P.aC.f at h
 refine ae (ab ?_)
 refine o1 ?_
 refine aa (ae (ab ?_))
 refine dA rfl (wu 3 .i64 (.inr rfl) rfl rfl (ib hX (by decide))) ?_
 refine aa (ae (ab ?_))
 refine o1 ?_
 refine aa (ae (ae (ab ?_)))
 refine o1 ?_
 refine aa (aK (cd ?_))
 refine cn (D:=List Int×List Int×List Int×Int×Int×Unit) (fun d=>⟨look [(0,.ints .i64 d.1),(1,.ints .i64 d.2.1),(5,.own 5),(6,.int .i64 d.2.2.2.1),(7,.int .i64 d.2.2.2.2.1)],look [(5,gi 3 .i64 d.2.2.1)]⟩) (fun K_ d=>P.aC.l0 K_ d.1 d.2.1 d.2.2.1 d.2.2.2.1 d.2.2.2.2.1=some r) ?_ _ (_,_,_,_,_,()) h (bm _ _ ⟨rfl,rfl,rfl,rfl,rfl,trivial⟩ ⟨rfl,trivial⟩ rfl)
 intro K1 ih2 d h
 obtain ⟨x0,x1,x5,x6,x7,_⟩:=d
 dsimp only at h ⊢
 cases K1 with
 | zero=>exact absurd h (by simp [P.aC.l0])
 | succ m3 =>
  simp only [P.aC.l0] at h
  refine bK (ae (ae ?_))
  refine gR (D:=Nat×List Int×List Int×List Int×Int×Int×Bool×Unit) (fun d=>⟨look [(0,.ints .i64 d.2.1),(1,.ints .i64 d.2.2.1),(5,.own 5),(6,.int .i64 d.2.2.2.2.1),(7,.int .i64 d.2.2.2.2.2.1),(21,.bool d.2.2.2.2.2.2.1)],look [(5,gi 3 .i64 d.2.2.2.1)]⟩) (fun d=>P.aC.j1 d.1 d.2.1 d.2.2.1 d.2.2.2.1 d.2.2.2.2.1 d.2.2.2.2.2.1 d.2.2.2.2.2.2.1=some r∧d.1≤m3) ?_ ?_
  ·skip
   rintro ⟨kq4,x0,x1,x5,x6,x7,x21,_⟩ ⟨h,b5⟩
   dsimp only at h b5 ⊢
   cases kq4 with
   | zero=>exact absurd h (by simp [P.aC.j1])
   | succ m6 =>
    simp only [P.aC.j1] at h
    refine aL rfl (fun hb=>?_) (fun hb=>?_)
    ·skip
     obtain ⟨c7,h⟩:=tkT h hb
     have g8:=hb
     clear hb
     refine aN (ae (aK (ae (ae (ab ?_)))))
     iterate 4 refine o1 ?_
     refine aa ?_
     refine aL rfl (fun hb=>?_) (fun hb=>?_)
     ·skip
      obtain ⟨c9,h⟩:=tkT h hb
      have g10:=hb
      clear hb
      obtain ⟨q11,h⟩:=ao h
      refine ab ?_
      iterate 7 refine o1 ?_
      refine aa (ae (ae (ab ?_)))
      iterate 4 refine o1 ?_
      refine aa ?_
      refine aL rfl (fun hb=>?_) (fun hb=>?_)
      ·skip
       obtain ⟨c12,h⟩:=tkT h hb
       have g13:=hb
       clear hb
       obtain ⟨q14,h⟩:=ao h
       refine ab ?_
       iterate 7 refine o1 ?_
       refine aa (ae (ab ?_))
       iterate 6 refine o1 ?_
       refine aa (ab ?_)
       iterate 3 refine o1 ?_
       refine aa (ab ?_)
       iterate 3 refine o1 ?_
       refine aa ?_
       exact aW (ih2 m6 (by omega) (_,_,_,_,_,()) h) ⟨rfl,rfl,rfl,rfl,rfl,trivial⟩ ⟨rfl,trivial⟩ rfl
      ·skip
       obtain ⟨c15,h⟩:=tkF h hb
       have g16:=hb
       clear hb
       obtain ⟨q17,h⟩:=ao h
       refine aN (ae (ab ?_))
       iterate 6 refine o1 ?_
       refine aa (ab ?_)
       iterate 3 refine o1 ?_
       refine aa (ab ?_)
       iterate 3 refine o1 ?_
       refine aa ?_
       exact aW (ih2 m6 (by omega) (_,_,_,_,_,()) h) ⟨rfl,rfl,rfl,rfl,rfl,trivial⟩ ⟨rfl,trivial⟩ rfl
     ·skip
      obtain ⟨c18,h⟩:=tkF h hb
      have g19:=hb
      clear hb
      refine aN (ae (ae (ab ?_)))
      iterate 4 refine o1 ?_
      refine aa ?_
      refine aL rfl (fun hb=>?_) (fun hb=>?_)
      ·skip
       obtain ⟨c20,h⟩:=tkT h hb
       have g21:=hb
       clear hb
       obtain ⟨q22,h⟩:=ao h
       obtain ⟨q23,h⟩:=ao h
       refine ab ?_
       iterate 7 refine o1 ?_
       refine aa (ae (ab ?_))
       iterate 6 refine o1 ?_
       refine aa (ab ?_)
       iterate 3 refine o1 ?_
       refine aa (ab ?_)
       iterate 3 refine o1 ?_
       refine aa ?_
       exact aW (ih2 m6 (by omega) (_,_,_,_,_,()) h) ⟨rfl,rfl,rfl,rfl,rfl,trivial⟩ ⟨rfl,trivial⟩ rfl
      ·skip
       obtain ⟨c24,h⟩:=tkF h hb
       have g25:=hb
       clear hb
       obtain ⟨q26,h⟩:=ao h
       refine aN (ae (ab ?_))
       iterate 6 refine o1 ?_
       refine aa (ab ?_)
       iterate 3 refine o1 ?_
       refine aa (ab ?_)
       iterate 3 refine o1 ?_
       refine aa ?_
       exact aW (ih2 m6 (by omega) (_,_,_,_,_,()) h) ⟨rfl,rfl,rfl,rfl,rfl,trivial⟩ ⟨rfl,trivial⟩ rfl
    ·skip
     obtain ⟨c27,h⟩:=tkF h hb
     have g28:=hb
     clear hb
     refine bM (ae (ab ?_))
     iterate 2 refine o1 ?_
     refine aa ?_
     refine eJ (dz (k:=5) rfl) ?_
     obtain rfl:=Option.some.inj h
     exact bh ⟨.inl rfl,.one (.tmp rt) rfl⟩
  ·skip
   refine ab ?_
   iterate 5 refine o1 ?_
   refine og rfl rfl rfl rfl (fun hb=>?_) (fun hb=>?_)
   ·skip
    obtain ⟨c29,h⟩:=tkF h hb
    have g30:=hb
    clear hb
    iterate 4 refine oT ?_
    iterate 2 refine o1 ?_
    refine og rfl rfl rfl rfl (fun hb=>?_) (fun hb=>?_)
    ·skip
     obtain ⟨c31,h⟩:=tkF h hb
     have g32:=hb
     clear hb
     iterate 2 refine oT ?_
     refine o1 ?_
     refine aa ?_
     exact ⟨(m3,_,_,_,_,_,_,()),⟨h,by omega⟩,bm _ _ ⟨rfl,rfl,rfl,rfl,rfl,rfl,trivial⟩ ⟨rfl,trivial⟩ rfl⟩
    ·skip
     obtain ⟨c33,h⟩:=tkT h hb
     have g34:=hb
     clear hb
     iterate 2 refine opS ?_
     refine o1 ?_
     refine aa ?_
     exact ⟨(m3,_,_,_,_,_,_,()),⟨h,by omega⟩,bm _ _ ⟨rfl,rfl,rfl,rfl,rfl,rfl,trivial⟩ ⟨rfl,trivial⟩ rfl⟩
   ·skip
    obtain ⟨c35,h⟩:=tkT h hb
    have g36:=hb
    clear hb
    iterate 4 refine opS ?_
    iterate 2 refine o1 ?_
    iterate 2 refine opS ?_
    refine o1 ?_
    refine aa ?_
    exact ⟨(m3,_,_,_,_,_,_,()),⟨h,by omega⟩,bm _ _ ⟨rfl,rfl,rfl,rfl,rfl,rfl,trivial⟩ ⟨rfl,trivial⟩ rfl⟩
instance:FN Tryz.prog 102:=⟨⟨_,Tryz.func102,by decide,by simp [Tryz.f102]⟩⟩
set_option maxRecDepth 100000 in
set_option maxHeartbeats 4000000 in
theorem bB.v (k:Nat) (l0:List Int) (l1:List Int) (r:Bool) (h:P.bB.f k l0 l1=some r):Fn Tryz.prog 102 [.ints .u32 l0,.ints .u32 l1] (.bool r):=by
 refine bY Tryz.func102 rfl (Nat.le_of_ble_eq_true rfl) ?_
 intro X hX
 unfold P.bB.f at h
 refine ae (ab ?_)
 refine o1 ?_
 refine aa (ae (ae (ab ?_)))
 iterate 5 refine o1 ?_
 refine aa ?_
 refine aL rfl (fun hb=>?_) (fun hb=>?_)
 ·skip
  obtain ⟨c1,h⟩:=tkF h hb
  have g2:=hb
  clear hb
  refine ae (ab ?_)
  refine o1 ?_
  refine aa ?_
  obtain rfl:=Option.some.inj h
  exact bh ⟨.inl rfl,.one (.tmp rt) rfl⟩
 ·skip
  obtain ⟨c3,h⟩:=tkT h hb
  have g4:=hb
  clear hb
  refine aN (ae (ae (ab ?_)))
  iterate 3 refine o1 ?_
  refine aa (aK (cd ?_))
  refine cn (D:=List Int×List Int×Int×Int×Unit) (fun d=>⟨look [(0,.ints .u32 d.1),(1,.ints .u32 d.2.1),(12,.int .i64 d.2.2.1),(13,.int .i64 d.2.2.2.1)],look []⟩) (fun K_ d=>P.bB.l0 K_ d.1 d.2.1 d.2.2.1 d.2.2.2.1=some r) ?_ _ (_,_,_,_,()) h (bm _ _ ⟨rfl,rfl,rfl,rfl,trivial⟩ trivial rfl)
  intro K5 ih6 d h
  obtain ⟨x0,x1,x12,x13,_⟩:=d
  dsimp only at h ⊢
  cases K5 with
  | zero=>exact absurd h (by simp [P.bB.l0])
  | succ m7 =>
   simp only [P.bB.l0] at h
   refine bK (ae (ab ?_))
   refine o1 ?_
   refine aa (ae ?_)
   refine aL rfl (fun hb=>?_) (fun hb=>?_)
   ·skip
    obtain ⟨c8,h⟩:=tkT h hb
    have g9:=hb
    clear hb
    obtain ⟨q10,h⟩:=ao h
    obtain ⟨q11,h⟩:=ao h
    obtain ⟨q12,h⟩:=ao h
    refine aN (ae (aK (ae (ab ?_))))
    iterate 2 refine o1 ?_
    refine aa (ae (fT ?_))
    iterate 9 refine s1 ?_
    refine lR ?_
    refine aL rfl (fun hb=>?_) (fun hb=>?_)
    ·skip
     obtain ⟨c13,h⟩:=tkF h hb
     have g14:=hb
     clear hb
     refine ae (ab ?_)
     refine o1 ?_
     refine aa ?_
     obtain rfl:=Option.some.inj h
     exact bh ⟨.inl rfl,.one (.tmp rt) rfl⟩
    ·skip
     obtain ⟨c15,h⟩:=tkT h hb
     have g16:=hb
     clear hb
     refine aN (ab ?_)
     iterate 2 refine o1 ?_
     refine aa ?_
     exact aW (ih6 m7 (by omega) (_,_,_,_,()) h) ⟨rfl,rfl,rfl,rfl,trivial⟩ trivial rfl
   ·skip
    obtain ⟨c17,h⟩:=tkF h hb
    have g18:=hb
    clear hb
    refine bM (ae (ab ?_))
    refine o1 ?_
    refine aa ?_
    obtain rfl:=Option.some.inj h
    exact bh ⟨.inl rfl,.one (.tmp rt) rfl⟩
instance:FN Tryz.prog 74:=⟨⟨_,Tryz.func74,by decide,by simp [Tryz.f74]⟩⟩
set_option maxRecDepth 100000 in
set_option maxHeartbeats 4000000 in
theorem cE.v (k:Nat) (l0:List Int) (a1:Int) (r:List Int) (h:P.cE.f k l0 a1=some r):Fn Tryz.prog 74 [.ints .i64 l0,.int .i64 a1] (.ints .i64 r):=by
 refine bY Tryz.func74 rfl (Nat.le_of_ble_eq_true rfl) ?_
 intro X hX
 unfold P.cE.f at h
 refine ae (ab ?_)
 refine o1 ?_
 refine aa (ae (ab ?_))
 iterate 2 refine o1 ?_
 refine aa (ae (ae (ab ?_)))
 iterate 2 refine o1 ?_
 refine aa (aK (cd ?_))
 refine cn (D:=List Int×List Int×Int×Int×Unit) (fun d=>⟨look [(0,.ints .i64 d.1),(5,.ints .i64 d.2.1),(7,.int .i64 d.2.2.1),(8,.int .i64 d.2.2.2.1)],look []⟩) (fun K_ d=>P.cE.l0 K_ d.1 d.2.1 d.2.2.1 d.2.2.2.1=some r) ?_ _ (_,_,_,_,()) h (bm _ _ ⟨rfl,rfl,rfl,rfl,trivial⟩ trivial rfl)
 intro K1 ih2 d h
 obtain ⟨x0,x5,x7,x8,_⟩:=d
 dsimp only at h ⊢
 cases K1 with
 | zero=>exact absurd h (by simp [P.cE.l0])
 | succ m3 =>
  simp only [P.cE.l0] at h
  refine bK (ae (ab ?_))
  refine o1 ?_
  refine aa (ae ?_)
  refine aL rfl (fun hb=>?_) (fun hb=>?_)
  ·skip
   obtain ⟨c4,h⟩:=tkT h hb
   have g5:=hb
   clear hb
   refine aN (ae (aK (ab ?_)))
   iterate 2 refine o1 ?_
   obtain ⟨t6,ht7,h⟩:=Option.bind_eq_some_iff.1 h
   refine opC (aq.v _ _ _ _ ht7) ?_
   refine o1 ?_
   refine aa (ab ?_)
   iterate 2 refine o1 ?_
   refine aa ?_
   exact aW (ih2 m3 (by omega) (_,_,_,_,()) h) ⟨rfl,rfl,rfl,rfl,trivial⟩ trivial rfl
  ·skip
   obtain ⟨c8,h⟩:=tkF h hb
   have g9:=hb
   clear hb
   refine bM (ae (ab ?_))
   iterate 2 refine o1 ?_
   refine aa ?_
   obtain rfl:=Option.some.inj h
   exact bh ⟨.inl rfl,.one (.tmp rt) rfl⟩
end Go.Proofs.YtjimdhlmeebjeaaGreat.V
end
section
namespace Go.Proofs.YtjimdhlmeebjeaaGreat.E
open Go.RowKit Go.Proofs.YtjimdhlmeebjeaaGreatW.PrintWords Go.Proofs.YtjimdhlmeebjeaaGreatW.PrintMore Go.Proofs.YtjimdhlmeebjeaaGreat.V
set_option linter.unusedVariables false
noncomputable def iA:Orc T:=xn (.list (.int .i64)) (.list (.int .i64)) (.list (.int .i64)) (fun k a0 a1=>P.aC.f k a0 a1)
theorem jI:dR T (96,iA):=eD rfl (FN.h (P:=Tryz.prog)) fun k a0 a1 r h=>by
 have q:=aC.v k a0 a1 r h
 simp only [ff] at q
 exact ⟨_,rfl,q⟩
noncomputable def iz:Orc T:=xn (.list (.int .i64)) (.list (.int .i64)) (.int .i64) (fun k a0 a1=>P.aG.f k a0 a1)
theorem jH:dR T (72,iz):=eD rfl (FN.h (P:=Tryz.prog)) fun k a0 a1 r h=>by
 have q:=aG.v k a0 a1 r h
 simp only [ff] at q
 exact ⟨_,rfl,q⟩
noncomputable def gn:Orc T:=xn (.list (.int .i64)) (.list (.int .i64)) (.pair (.list (.int .i64)) (.pair (.list (.int .i64)) .unit)) (fun k a0 a1=>(P.aE.f k a0 a1).map fun r=>(r.1,r.2,()))
theorem iV:dR T (104,gn):=eD rfl (FN.h (P:=Tryz.prog)) fun k a0 a1 r h=>by
 obtain ⟨r1,h1,rfl⟩:=Option.map_eq_some_iff.1 h
 have q:=aE.v k a0 a1 r1 h1
 simp only [ff] at q
 exact ⟨_,rfl,q⟩
noncomputable def ix:Orc T:=xn (.list (.int .i64)) (.list (.int .i64)) (.list (.int .i64)) (fun k a0 a1=>P.ay.f k a0 a1)
theorem jG:dR T (73,ix):=eD rfl (FN.h (P:=Tryz.prog)) fun k a0 a1 r h=>by
 have q:=ay.v k a0 a1 r h
 simp only [ff] at q
 exact ⟨_,rfl,q⟩
noncomputable def iw:Orc T:=orc1 (.int .i64) (.list (.int .i64)) (fun k a0=>P.aH.f k a0)
theorem jF:dR T (66,iw):=lY rfl (FN.h (P:=Tryz.prog)) fun k a0 r h=>by
 have q:=aH.v k a0 r h
 simp only [ff] at q
 exact ⟨_,rfl,q⟩
noncomputable def iv:Orc T:=xn (.list (.int .i64)) (.list (.int .i64)) (.list (.int .i64)) (fun k a0 a1=>P.aq.f k a0 a1)
theorem jE:dR T (94,iv):=eD rfl (FN.h (P:=Tryz.prog)) fun k a0 a1 r h=>by
 have q:=aq.v k a0 a1 r h
 simp only [ff] at q
 exact ⟨_,rfl,q⟩
noncomputable def iu:Orc T:=xn (.list (.int .i64)) (.int .i64) (.list (.int .i64)) (fun k a0 a1=>P.cE.f k a0 a1)
theorem jD:dR T (74,iu):=eD rfl (FN.h (P:=Tryz.prog)) fun k a0 a1 r h=>by
 have q:=cE.v k a0 a1 r h
 simp only [ff] at q
 exact ⟨_,rfl,q⟩
noncomputable def gK:Orc T:=orc3 (.list (.int .i64)) (.int .i64) (.int .i64) (.list (.int .i64)) (fun k a0 a1 a2=>P.ax.f k a0 a1 a2)
theorem jg:dR T (80,gK):=DL rfl (FN.h (P:=Tryz.prog)) fun k a0 a1 a2 r h=>by
 have q:=ax.v k a0 a1 a2 r h
 simp only [ff] at q
 exact ⟨_,rfl,q⟩
noncomputable def ir:Orc T:=xn (.list (.int .i64)) (.list (.int .i64)) (.list (.int .i64)) (fun k a0 a1=>P.aJ.f k a0 a1)
theorem jC:dR T (97,ir):=eD rfl (FN.h (P:=Tryz.prog)) fun k a0 a1 r h=>by
 have q:=aJ.v k a0 a1 r h
 simp only [ff] at q
 exact ⟨_,rfl,q⟩
noncomputable def gJ:Orc T:=orc1 (.list (.int .u32)) .bool (fun k a0=>P.bD.f a0)
theorem jf:dR T (71,gJ):=lY rfl (FN.h (P:=Tryz.prog)) fun k a0 r h=>by
 have q:=bD.v a0 r h
 simp only [ff] at q
 exact ⟨_,rfl,q⟩
noncomputable def gH:Orc T:=orc1 (.list (.int .i64)) (.list (.int .u32)) (fun k a0=>P.aF.f k a0)
theorem je:dR T (43,gH):=lY rfl (FN.h (P:=Tryz.prog)) fun k a0 r h=>by
 have q:=aF.v k a0 r h
 simp only [ff] at q
 exact ⟨_,rfl,q⟩
noncomputable def sL:Orc T:=xn (.list (.int .u32)) (.list (.int .u32)) (.list (.int .u32)) (fun k a0 a1=>P.dg.f k a0 a1)
theorem qT:dR T (92,sL):=eD rfl (FN.h (P:=Tryz.prog)) fun k a0 a1 r h=>by
 have q:=dg.v k a0 a1 r h
 simp only [ff] at q
 exact ⟨_,rfl,q⟩
noncomputable def qz:Orc T:=orc1 (.list (.int .u32)) (.int .i64) (fun k a0=>P.gV.f a0)
theorem pM:dR T (133,qz):=lY rfl (FN.h (P:=Tryz.prog)) fun k a0 r h=>by
 have q:=gV.v a0 r h
 simp only [ff] at q
 exact ⟨_,rfl,q⟩
noncomputable def sK:Orc T:=xn (.list (.int .u32)) (.list (.int .u32)) (.int .i64) (fun k a0 a1=>P.cX.f k a0 a1)
theorem qS:dR T (89,sK):=eD rfl (FN.h (P:=Tryz.prog)) fun k a0 a1 r h=>by
 have q:=cX.v k a0 a1 r h
 simp only [ff] at q
 exact ⟨_,rfl,q⟩
noncomputable def nD:Orc T:=xn (.list (.int .u32)) (.list (.int .u32)) (.pair (.list (.int .u32)) (.pair (.list (.int .u32)) .unit)) (fun k a0 a1=>(P.aI.f k a0 a1).map fun r=>(r.1,r.2,()))
theorem nP:dR T (117,nD):=eD rfl (FN.h (P:=Tryz.prog)) fun k a0 a1 r h=>by
 obtain ⟨r1,h1,rfl⟩:=Option.map_eq_some_iff.1 h
 have q:=aI.v k a0 a1 r1 h1
 simp only [ff] at q
 exact ⟨_,rfl,q⟩
noncomputable def qy:Orc T:=orc1 (.int .u64) (.list (.int .u32)) (fun k a0=>P.dE.f k a0)
theorem pL:dR T (98,qy):=lY rfl (FN.h (P:=Tryz.prog)) fun k a0 r h=>by
 have q:=dE.v k a0 r h
 simp only [ff] at q
 exact ⟨_,rfl,q⟩
noncomputable def sJ:Orc T:=xn (.list (.int .u32)) (.list (.int .u32)) (.list (.int .u32)) (fun k a0 a1=>P.cq.f k a0 a1)
theorem qR:dR T (106,sJ):=eD rfl (FN.h (P:=Tryz.prog)) fun k a0 a1 r h=>by
 have q:=cq.v k a0 a1 r h
 simp only [ff] at q
 exact ⟨_,rfl,q⟩
noncomputable def sI:Orc T:=xn (.list (.int .u32)) (.list (.int .u32)) (.list (.int .u32)) (fun k a0 a1=>P.bC.f k a0 a1)
theorem qQ:dR T (90,sI):=eD rfl (FN.h (P:=Tryz.prog)) fun k a0 a1 r h=>by
 have q:=bC.v k a0 a1 r h
 simp only [ff] at q
 exact ⟨_,rfl,q⟩
noncomputable def sH:Orc T:=xn (.list (.int .u32)) (.int .i64) (.list (.int .u32)) (fun k a0 a1=>P.fk.f k a0 a1)
theorem qP:dR T (129,sH):=eD rfl (FN.h (P:=Tryz.prog)) fun k a0 a1 r h=>by
 have q:=fk.v k a0 a1 r h
 simp only [ff] at q
 exact ⟨_,rfl,q⟩
noncomputable def sG:Orc T:=xn (.list (.int .u32)) (.list (.int .u32)) (.list (.int .u32)) (fun k a0 a1=>P.dI.f k a0 a1)
theorem qO:dR T (93,sG):=eD rfl (FN.h (P:=Tryz.prog)) fun k a0 a1 r h=>by
 have q:=dI.v k a0 a1 r h
 simp only [ff] at q
 exact ⟨_,rfl,q⟩
noncomputable def fr:Orc T:=xn (.list (.int .u32)) (.list (.int .u32)) .bool (fun k a0 a1=>P.bB.f k a0 a1)
theorem gz:dR T (102,fr):=eD rfl (FN.h (P:=Tryz.prog)) fun k a0 a1 r h=>by
 have q:=bB.v k a0 a1 r h
 simp only [ff] at q
 exact ⟨_,rfl,q⟩
noncomputable def orcA:List (Nat×Orc T):=[(96,iA),(72,iz),(104,gn),(73,ix),(66,iw),(94,iv),(74,iu),(80,gK),(97,ir),(71,gJ),(43,gH),(92,sL),(133,qz),(89,sK),(117,nD),(98,qy),(106,sJ),(90,sI),(129,sH),(93,sG),(102,fr)]
theorem DK:∀ x∈orcA,dR T x:=by
 simp only [orcA,List.mem_cons,List.not_mem_nil,or_false,forall_eq_or_imp,forall_eq]
 exact ⟨jI,jH,iV,jG,jF,jE,jD,jg,jC,jf,je,qT,pM,qS,nP,pL,qR,qQ,qP,qO,gz⟩
end Go.Proofs.YtjimdhlmeebjeaaGreat.E
end
section
namespace Go.Proofs.YtjimdhlmeebjeaaGreat.E
abbrev aA:=Bool×List Int×List Int×Unit
noncomputable def orc:List (Nat×Orc T):=orcA
theorem orc_ok:OrcOk T orc:=orcOk_of DK
end Go.Proofs.YtjimdhlmeebjeaaGreat.E
end
