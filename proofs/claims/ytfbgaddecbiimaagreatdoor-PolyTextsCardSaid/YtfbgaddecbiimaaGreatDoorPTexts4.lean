/- An evaluator of the program's code, what its functions come to, and what they mean: text 4. No condition. -/
import Derived.KernelRfl
import Derived.Shelf.Strings.Builder1
import Derived.Test.YtfbgaddecbiimaaGreatDoorPTexts3
set_option linter.unusedSimpArgs false
set_option linter.unusedSectionVars false
section
namespace Go.Proofs.YtfbgaddecbiimaaGreatDoor.P
open Go.RowKit Go.Proofs.YtfbgaddecbiimaaGreatDoorW.PrintWords Go.Proofs.YtfbgaddecbiimaaGreatDoorW.PrintLast Go.Proofs.YtfbgaddecbiimaaGreatDoorW.PrintMore Go.Proofs.YtfbgaddecbiimaaGreatDoorW
attribute [local go_sem] rm rk uY uX tr tq wC wA
set_option linter.unusedVariables false
set_option linter.unusedSimpArgs false
def jR.f (a0_0:Bool) (l0_1:List Int) (l0_2:List Int) (a1:Int):Option (Bool):=if (l0_1.length:Int)≤a1 then (some (decide ((l0_2.length:Int)≤a1))) else (some false)
def ly.f (a0_0:Bool) (l0_1:List Int) (l0_2:List Int):Option (Int):=if (l0_1.length:Int)=0 then (some 0) else (if a0_0=true then (some (-1)) else (some 1))
def dU.l0:Nat→List Int→List Int→Int→Int→Option (Int)
 | 0,_,_,_,_=>none
 | k+1,x1,x7,x8,x9=>if x9<x8 then (if 0≤x9 then (if x9<(x7.length:Int) then (if x9<(x1.length:Int) then (if (rd x7 x9)=(rd x1 x9) then (dU.l0 k x1 x7 x8 (wrap64 (x9+1))) else (if (rd x7 x9)<(rd x1 x9) then (some (-1)) else (some 1))) else (none)) else (none)) else (none)) else (some 0)
def dU.f (k:Nat) (l0:List Int) (l1:List Int):Option (Int):=dU.l0 k l1 l0 (l0.length:Int) 0
def fX.f (l0:List Int) (a1:Int):Option (Bool):=if (l0.length:Int)≤a1 then (if (l0.length:Int)=0 then (some true) else (if 0≤(wrap64 ((l0.length:Int)-1)) then (if (wrap64 ((l0.length:Int)-1))<(l0.length:Int) then (some ((rd l0 (wrap64 ((l0.length:Int)-1))) != 0)) else (none)) else (none))) else (some false)
def bQ.l0:Nat→List Int→List Int→Int→Option (Int)
 | 0,_,_,_=>none
 | k+1,x0,x1,x5=>if x5≥0 then (if 0≤x5 then (if x5<(x0.length:Int) then (if x5<(x1.length:Int) then (if (rd x0 x5)=(rd x1 x5) then (bQ.l0 k x0 x1 (wrap64 (x5-1))) else (if (rd x0 x5)<(rd x1 x5) then (some (-1)) else (some 1))) else (none)) else (none)) else (none)) else (some 0)
def bQ.f (k:Nat) (l0:List Int) (l1:List Int):Option (Int):=if (l0.length:Int)=(l1.length:Int) then (bQ.l0 k l0 l1 (wrap64 ((l0.length:Int)-1))) else (if (l0.length:Int)<(l1.length:Int) then (some (-1)) else (some 1))
theorem bQ.bg:∀ k,(∀ y0 y1 y2,LeO (bQ.l0 k y0 y1 y2) (bQ.l0 (k+1) y0 y1 y2))
 | 0=>fun _ _ _ r h=>by simp [bQ.l0] at h
 | k+1=>by
  have ih0:=bQ.bg k
  ·intro y0 y1 y2
   unfold bQ.l0
   repeat' first
   | (with_reducible first | exact ih0 _ _ _ | exact LeO.refl _ | exact LeO.none _ | refine LeO.ite ?_ ?_ | refine LeO.bind ?_ (fun _=>?_))
   | exact ih0 _ _ _
   | exact LeO.none _
   | refine LeO.ite ?_ ?_
   | refine LeO.bind ?_ (fun _=>?_)
theorem bQ.mono:∀ a0 a1 k,LeO (bQ.f k a0 a1) (bQ.f (k+1) a0 a1):=by
 intro a0 a1 k
 have ih0:=bQ.bg k
 unfold bQ.f
 repeat' first
  | (with_reducible first | exact ih0 _ _ _ | exact LeO.refl _ | exact LeO.none _ | refine LeO.ite ?_ ?_ | refine LeO.bind ?_ (fun _=>?_))
  | exact ih0 _ _ _
  | exact LeO.none _
  | refine LeO.ite ?_ ?_
  | refine LeO.bind ?_ (fun _=>?_)
def aQ.l0:Nat→List Int→Option (List Int)
 | 0,_=>none
 | k+1,x0=>if (x0.length:Int)>0 then (if 0≤(wrap64 ((x0.length:Int)-1)) then (if (wrap64 ((x0.length:Int)-1))<(x0.length:Int) then (if (rd x0 (wrap64 ((x0.length:Int)-1)))=0 then (if (wrap64 ((x0.length:Int)-1))≤(x0.length:Int) then (aQ.l0 k (x0.take ((wrap64 ((x0.length:Int)-1)):Int).toNat)) else (none)) else (some x0)) else (none)) else (none)) else (some x0)
def aQ.f (k:Nat) (l0:List Int):Option (List Int):=aQ.l0 k l0
theorem aQ.bg:∀ k,(∀ y0,LeO (aQ.l0 k y0) (aQ.l0 (k+1) y0))
 | 0=>fun _ r h=>by simp [aQ.l0] at h
 | k+1=>by
  have ih0:=aQ.bg k
  ·intro y0
   unfold aQ.l0
   repeat' first
   | (with_reducible first | exact ih0 _ | exact LeO.refl _ | exact LeO.none _ | refine LeO.ite ?_ ?_ | refine LeO.bind ?_ (fun _=>?_))
   | exact ih0 _
   | exact LeO.none _
   | refine LeO.ite ?_ ?_
   | refine LeO.bind ?_ (fun _=>?_)
theorem aQ.mono:∀ a0 k,LeO (aQ.f k a0) (aQ.f (k+1) a0):=by
 intro a0 k
 have ih0:=aQ.bg k
 unfold aQ.f
 repeat' first
  | (with_reducible first | exact ih0 _ | exact LeO.refl _ | exact LeO.none _ | refine LeO.ite ?_ ?_ | refine LeO.bind ?_ (fun _=>?_))
  | exact ih0 _
  | exact LeO.none _
  | refine LeO.ite ?_ ?_
  | refine LeO.bind ?_ (fun _=>?_)
def bw.f (k:Nat) (a0:Int):Option (List Int):=(aQ.f k (([(a0) % 4294967296,(a0 / 4294967296) % 4294967296]:List Int))).bind fun t120=>(some t120)
theorem bw.mono:∀ a0 k,LeO (bw.f k a0) (bw.f (k+1) a0):=by
 intro a0 k
 unfold bw.f
 repeat' first
  | (with_reducible first | exact aQ.mono _ _ | exact LeO.refl _ | exact LeO.none _ | refine LeO.ite ?_ ?_ | refine LeO.bind ?_ (fun _=>?_))
  | exact aQ.mono _ _
  | exact LeO.none _
  | refine LeO.ite ?_ ?_
  | refine LeO.bind ?_ (fun _=>?_)
def bb.l0:Nat→List Int→Int→List Int→Int→Int→Option (List Int×Int)
 | 0,_,_,_,_,_=>none
 | k+1,x0,x1,x6,x7,x8=>if x8≥0 then (if 0≤x8 then (if x8<(x0.length:Int) then (if (IntKind.u64.wrap (x1))=0 then (none) else (if x8<(x6.length:Int) then (bb.l0 k x0 x1 (x6.set (x8:Int).toNat ((IntKind.u64.wrap (Int.tdiv (Go.bits .or .u64 (IntKind.u64.wrap (x7*4294967296)) (IntKind.u64.wrap (rd x0 x8))) (IntKind.u64.wrap (x1)))) % 4294967296)) (Int.tmod (Go.bits .or .u64 (IntKind.u64.wrap (x7*4294967296)) (IntKind.u64.wrap (rd x0 x8))) (IntKind.u64.wrap (x1))) (wrap64 (x8-1))) else (none))) else (none)) else (none)) else ((aQ.f k x6).bind fun t128=>(some (t128,(x7) % 4294967296)))
def bb.f (k:Nat) (l0:List Int) (a1:Int):Option (List Int×Int):=if 0≤(l0.length:Int) then (if ((l0.length:Int):Int).toNat≤70368744177664 then (bb.l0 k l0 a1 (List.replicate ((l0.length:Int):Int).toNat 0) 0 (wrap64 ((l0.length:Int)-1))) else (none)) else (none)
theorem bb.bg:∀ k,(∀ y0 y1 y2 y3 y4,LeO (bb.l0 k y0 y1 y2 y3 y4) (bb.l0 (k+1) y0 y1 y2 y3 y4))
 | 0=>fun _ _ _ _ _ r h=>by simp [bb.l0] at h
 | k+1=>by
  have ih0:=bb.bg k
  ·intro y0 y1 y2 y3 y4
   unfold bb.l0
   repeat' first
   | (with_reducible first | exact ih0 _ _ _ _ _ | exact aQ.mono _ _ | exact LeO.refl _ | exact LeO.none _ | refine LeO.ite ?_ ?_ | refine LeO.bind ?_ (fun _=>?_))
   | exact ih0 _ _ _ _ _
   | exact aQ.mono _ _
   | exact LeO.none _
   | refine LeO.ite ?_ ?_
   | refine LeO.bind ?_ (fun _=>?_)
theorem bb.mono:∀ a0 a1 k,LeO (bb.f k a0 a1) (bb.f (k+1) a0 a1):=by
 intro a0 a1 k
 have ih0:=bb.bg k
 unfold bb.f
 repeat' first
  | (with_reducible first | exact ih0 _ _ _ _ _ | exact aQ.mono _ _ | exact LeO.refl _ | exact LeO.none _ | refine LeO.ite ?_ ?_ | refine LeO.bind ?_ (fun _=>?_))
  | exact ih0 _ _ _ _ _
  | exact aQ.mono _ _
  | exact LeO.none _
  | refine LeO.ite ?_ ?_
  | refine LeO.bind ?_ (fun _=>?_)
def bits_Len32.f (a0:Int):Option (Int):=if a0≥65536 then (if (a0 / 65536)≥256 then (if 0≤(((a0 / 65536) / 256) % 256) then (if (((a0 / 65536) / 256) % 256)<256 then (some (wrap64 ((16+8)+(wrap64 (bt (⟨#[0,1,2,2,3,3,3,3,4,4,4,4,4,4,4,4,5,5,5,5,5,5,5,5,5,5,5,5,5,5,5,5,6,6,6,6,6,6,6,6,6,6,6,6,6,6,6,6,6,6,6,6,6,6,6,6,6,6,6,6,6,6,6,6,7,7,7,7,7,7,7,7,7,7,7,7,7,7,7,7,7,7,7,7,7,7,7,7,7,7,7,7,7,7,7,7,7,7,7,7,7,7,7,7,7,7,7,7,7,7,7,7,7,7,7,7,7,7,7,7,7,7,7,7,7,7,7,7,8,8,8,8,8,8,8,8,8,8,8,8,8,8,8,8,8,8,8,8,8,8,8,8,8,8,8,8,8,8,8,8,8,8,8,8,8,8,8,8,8,8,8,8,8,8,8,8,8,8,8,8,8,8,8,8,8,8,8,8,8,8,8,8,8,8,8,8,8,8,8,8,8,8,8,8,8,8,8,8,8,8,8,8,8,8,8,8,8,8,8,8,8,8,8,8,8,8,8,8,8,8,8,8,8,8,8,8,8,8,8,8,8,8,8,8,8,8,8,8,8,8,8,8,8,8,8,8]⟩:ByteArray) (((a0 / 65536) / 256) % 256)))))) else (none)) else (none)) else (if 0≤((a0 / 65536) % 256) then (if ((a0 / 65536) % 256)<256 then (some (wrap64 (16+(wrap64 (bt (⟨#[0,1,2,2,3,3,3,3,4,4,4,4,4,4,4,4,5,5,5,5,5,5,5,5,5,5,5,5,5,5,5,5,6,6,6,6,6,6,6,6,6,6,6,6,6,6,6,6,6,6,6,6,6,6,6,6,6,6,6,6,6,6,6,6,7,7,7,7,7,7,7,7,7,7,7,7,7,7,7,7,7,7,7,7,7,7,7,7,7,7,7,7,7,7,7,7,7,7,7,7,7,7,7,7,7,7,7,7,7,7,7,7,7,7,7,7,7,7,7,7,7,7,7,7,7,7,7,7,8,8,8,8,8,8,8,8,8,8,8,8,8,8,8,8,8,8,8,8,8,8,8,8,8,8,8,8,8,8,8,8,8,8,8,8,8,8,8,8,8,8,8,8,8,8,8,8,8,8,8,8,8,8,8,8,8,8,8,8,8,8,8,8,8,8,8,8,8,8,8,8,8,8,8,8,8,8,8,8,8,8,8,8,8,8,8,8,8,8,8,8,8,8,8,8,8,8,8,8,8,8,8,8,8,8,8,8,8,8,8,8,8,8,8,8,8,8,8,8,8,8,8,8,8,8,8,8]⟩:ByteArray) ((a0 / 65536) % 256)))))) else (none)) else (none))) else (if a0≥256 then (if 0≤((a0 / 256) % 256) then (if ((a0 / 256) % 256)<256 then (some (wrap64 ((0+8)+(wrap64 (bt (⟨#[0,1,2,2,3,3,3,3,4,4,4,4,4,4,4,4,5,5,5,5,5,5,5,5,5,5,5,5,5,5,5,5,6,6,6,6,6,6,6,6,6,6,6,6,6,6,6,6,6,6,6,6,6,6,6,6,6,6,6,6,6,6,6,6,7,7,7,7,7,7,7,7,7,7,7,7,7,7,7,7,7,7,7,7,7,7,7,7,7,7,7,7,7,7,7,7,7,7,7,7,7,7,7,7,7,7,7,7,7,7,7,7,7,7,7,7,7,7,7,7,7,7,7,7,7,7,7,7,8,8,8,8,8,8,8,8,8,8,8,8,8,8,8,8,8,8,8,8,8,8,8,8,8,8,8,8,8,8,8,8,8,8,8,8,8,8,8,8,8,8,8,8,8,8,8,8,8,8,8,8,8,8,8,8,8,8,8,8,8,8,8,8,8,8,8,8,8,8,8,8,8,8,8,8,8,8,8,8,8,8,8,8,8,8,8,8,8,8,8,8,8,8,8,8,8,8,8,8,8,8,8,8,8,8,8,8,8,8,8,8,8,8,8,8,8,8,8,8,8,8,8,8,8,8,8,8]⟩:ByteArray) ((a0 / 256) % 256)))))) else (none)) else (none)) else (if 0≤((a0) % 256) then (if ((a0) % 256)<256 then (some (wrap64 (0+(wrap64 (bt (⟨#[0,1,2,2,3,3,3,3,4,4,4,4,4,4,4,4,5,5,5,5,5,5,5,5,5,5,5,5,5,5,5,5,6,6,6,6,6,6,6,6,6,6,6,6,6,6,6,6,6,6,6,6,6,6,6,6,6,6,6,6,6,6,6,6,7,7,7,7,7,7,7,7,7,7,7,7,7,7,7,7,7,7,7,7,7,7,7,7,7,7,7,7,7,7,7,7,7,7,7,7,7,7,7,7,7,7,7,7,7,7,7,7,7,7,7,7,7,7,7,7,7,7,7,7,7,7,7,7,8,8,8,8,8,8,8,8,8,8,8,8,8,8,8,8,8,8,8,8,8,8,8,8,8,8,8,8,8,8,8,8,8,8,8,8,8,8,8,8,8,8,8,8,8,8,8,8,8,8,8,8,8,8,8,8,8,8,8,8,8,8,8,8,8,8,8,8,8,8,8,8,8,8,8,8,8,8,8,8,8,8,8,8,8,8,8,8,8,8,8,8,8,8,8,8,8,8,8,8,8,8,8,8,8,8,8,8,8,8,8,8,8,8,8,8,8,8,8,8,8,8,8,8,8,8,8,8]⟩:ByteArray) ((a0) % 256)))))) else (none)) else (none)))
def bits_LeadingZeros32.f (a0:Int):Option (Int):=(bits_Len32.f a0).bind fun t131=>(some (wrap64 (32-t131)))
def cd.l0:Nat→Int→Int→List Int→List Int→Int→Int→Option (List Int)
 | 0,_,_,_,_,_,_=>none
 | k+1,x5,x6,x7,x25,x26,x27=>if x27<x26 then (if 0≤x27 then (if x27<(x25.length:Int) then (if 0≤x6 then (if 0≤(wrap64 (x27+x5)) then (if (wrap64 (x27+x5))<(x7.length:Int) then (if 0≤(wrap64 ((wrap64 (x27+x5))+1)) then (if (wrap64 ((wrap64 (x27+x5))+1))<(x7.length:Int) then (cd.l0 k x5 x6 ((x7.set ((wrap64 (x27+x5)):Int).toNat (Go.bits .or .u32 (rd x7 (wrap64 (x27+x5))) ((shl .u64 (IntKind.u64.wrap (rd x25 x27)) x6) % 4294967296))).set ((wrap64 ((wrap64 (x27+x5))+1)):Int).toNat (((shl .u64 (IntKind.u64.wrap (rd x25 x27)) x6) / 4294967296) % 4294967296)) x25 x26 (wrap64 (x27+1))) else (none)) else (none)) else (none)) else (none)) else (none)) else (none)) else (none)) else ((aQ.f k x7).bind fun t139=>(some t139))
def cd.f (k:Nat) (l0:List Int) (a1:Int):Option (List Int):=if (l0.length:Int)=0 then (some ([]:List Int)) else (if 0≤(wrap64 ((wrap64 ((l0.length:Int)+(wrap64 (Int.tdiv a1 32))))+1)) then (if (wrap64 ((wrap64 ((l0.length:Int)+(wrap64 (Int.tdiv a1 32))))+1):Int).toNat≤70368744177664 then (cd.l0 k (wrap64 (Int.tdiv a1 32)) (IntKind.u64.wrap (Int.tmod a1 32)) (List.replicate (wrap64 ((wrap64 ((l0.length:Int)+(wrap64 (Int.tdiv a1 32))))+1):Int).toNat 0) l0 (l0.length:Int) 0) else (none)) else (none))
theorem cd.bg:∀ k,(∀ y0 y1 y2 y3 y4 y5,LeO (cd.l0 k y0 y1 y2 y3 y4 y5) (cd.l0 (k+1) y0 y1 y2 y3 y4 y5))
 | 0=>fun _ _ _ _ _ _ r h=>by simp [cd.l0] at h
 | k+1=>by
  have ih0:=cd.bg k
  ·intro y0 y1 y2 y3 y4 y5
   unfold cd.l0
   repeat' first
   | (with_reducible first | exact ih0 _ _ _ _ _ _ | exact aQ.mono _ _ | exact LeO.refl _ | exact LeO.none _ | refine LeO.ite ?_ ?_ | refine LeO.bind ?_ (fun _=>?_))
   | exact ih0 _ _ _ _ _ _
   | exact aQ.mono _ _
   | exact LeO.none _
   | refine LeO.ite ?_ ?_
   | refine LeO.bind ?_ (fun _=>?_)
theorem cd.mono:∀ a0 a1 k,LeO (cd.f k a0 a1) (cd.f (k+1) a0 a1):=by
 intro a0 a1 k
 have ih0:=cd.bg k
 unfold cd.f
 repeat' first
  | (with_reducible first | exact ih0 _ _ _ _ _ _ | exact aQ.mono _ _ | exact LeO.refl _ | exact LeO.none _ | refine LeO.ite ?_ ?_ | refine LeO.bind ?_ (fun _=>?_))
  | exact ih0 _ _ _ _ _ _
  | exact aQ.mono _ _
  | exact LeO.none _
  | refine LeO.ite ?_ ?_
  | refine LeO.bind ?_ (fun _=>?_)
def ba.l0:Nat→List Int→List Int→Int→Int→Int→List Int→Int→Int→Option (Bool×List Int)
 | 0,_,_,_,_,_,_,_,_=>none
 | k+1,x0,x1,x2,x7,x8,x13,x14,x15=>if x15<x14 then (if 0≤x15 then (if x15<(x13.length:Int) then (if x15<(x0.length:Int) then (ba.l0 k (x0.set (x15:Int).toNat ((IntKind.u64.wrap ((IntKind.u64.wrap ((IntKind.u64.wrap (rd x0 x15))-((IntKind.u64.wrap (x7+(IntKind.u64.wrap (x2*(IntKind.u64.wrap (rd x13 x15)))))) % 4294967296)))-x8)) % 4294967296)) x1 x2 ((IntKind.u64.wrap (x7+(IntKind.u64.wrap (x2*(IntKind.u64.wrap (rd x13 x15)))))) / 4294967296) ((IntKind.u64.wrap ((IntKind.u64.wrap ((IntKind.u64.wrap (rd x0 x15))-((IntKind.u64.wrap (x7+(IntKind.u64.wrap (x2*(IntKind.u64.wrap (rd x13 x15)))))) % 4294967296)))-x8)) / 9223372036854775808) x13 x14 (wrap64 (x15+1))) else (none)) else (none)) else (none)) else (if 0≤(x1.length:Int) then (if (x1.length:Int)<(x0.length:Int) then (some ((((IntKind.u64.wrap ((IntKind.u64.wrap ((IntKind.u64.wrap (rd x0 (x1.length:Int)))-x7))-x8)) / 9223372036854775808)==1),(x0.set ((x1.length:Int):Int).toNat ((IntKind.u64.wrap ((IntKind.u64.wrap ((IntKind.u64.wrap (rd x0 (x1.length:Int)))-x7))-x8)) % 4294967296)))) else (none)) else (none))
def ba.f (k:Nat) (l0:List Int) (l1:List Int) (a2:Int):Option (Bool×List Int):=ba.l0 k l0 l1 a2 0 0 l1 (l1.length:Int) 0
theorem ba.bg:∀ k,(∀ y0 y1 y2 y3 y4 y5 y6 y7,LeO (ba.l0 k y0 y1 y2 y3 y4 y5 y6 y7) (ba.l0 (k+1) y0 y1 y2 y3 y4 y5 y6 y7))
 | 0=>fun _ _ _ _ _ _ _ _ r h=>by simp [ba.l0] at h
 | k+1=>by
  have ih0:=ba.bg k
  ·intro y0 y1 y2 y3 y4 y5 y6 y7
   unfold ba.l0
   repeat' first
   | (with_reducible first | exact ih0 _ _ _ _ _ _ _ _ | exact LeO.refl _ | exact LeO.none _ | refine LeO.ite ?_ ?_ | refine LeO.bind ?_ (fun _=>?_))
   | exact ih0 _ _ _ _ _ _ _ _
   | exact LeO.none _
   | refine LeO.ite ?_ ?_
   | refine LeO.bind ?_ (fun _=>?_)
theorem ba.mono:∀ a0 a1 a2 k,LeO (ba.f k a0 a1 a2) (ba.f (k+1) a0 a1 a2):=by
 intro a0 a1 a2 k
 have ih0:=ba.bg k
 unfold ba.f
 repeat' first
  | (with_reducible first | exact ih0 _ _ _ _ _ _ _ _ | exact LeO.refl _ | exact LeO.none _ | refine LeO.ite ?_ ?_ | refine LeO.bind ?_ (fun _=>?_))
  | exact ih0 _ _ _ _ _ _ _ _
  | exact LeO.none _
  | refine LeO.ite ?_ ?_
  | refine LeO.bind ?_ (fun _=>?_)
def aZ.f (k:Nat) (l0:List Int) (b1_ b2_:Int) (l1:List Int) (a2:Int):Option (Bool×List Int):=(ba.f k ((l0.take b2_.toNat).drop b1_.toNat) l1 a2).bind fun p=>some (p.1,l0.take b1_.toNat++p.2++l0.drop b2_.toNat)
theorem aZ.mono:∀ (l0:List Int) (b1_ b2_:Int) (l1:List Int) (a2:Int) k,LeO (aZ.f k l0 b1_ b2_ l1 a2) (aZ.f (k+1) l0 b1_ b2_ l1 a2):=by
 intro l0 b1_ b2_ l1 a2 k
 unfold aZ.f
 exact LeO.bind (ba.mono _ _ _ _) (fun _=>LeO.refl _)
def bA.l0:Nat→List Int→List Int→Int→List Int→Int→Int→Option (List Int)
 | 0,_,_,_,_,_,_=>none
 | k+1,x0,x1,x4,x7,x8,x9=>if x9<x8 then (if 0≤x9 then (if x9<(x7.length:Int) then (if x9<(x0.length:Int) then (bA.l0 k (x0.set (x9:Int).toNat ((IntKind.u64.wrap (x4+(IntKind.u64.wrap ((IntKind.u64.wrap (rd x0 x9))+(IntKind.u64.wrap (rd x7 x9)))))) % 4294967296)) x1 ((IntKind.u64.wrap (x4+(IntKind.u64.wrap ((IntKind.u64.wrap (rd x0 x9))+(IntKind.u64.wrap (rd x7 x9)))))) / 4294967296) x7 x8 (wrap64 (x9+1))) else (none)) else (none)) else (none)) else (if 0≤(x1.length:Int) then (if (x1.length:Int)<(x0.length:Int) then (some (x0.set ((x1.length:Int):Int).toNat (((rd x0 (x1.length:Int))+((x4) % 4294967296)) % 4294967296))) else (none)) else (none))
def bA.f (k:Nat) (l0:List Int) (l1:List Int):Option (List Int):=bA.l0 k l0 l1 0 l1 (l1.length:Int) 0
theorem bA.bg:∀ k,(∀ y0 y1 y2 y3 y4 y5,LeO (bA.l0 k y0 y1 y2 y3 y4 y5) (bA.l0 (k+1) y0 y1 y2 y3 y4 y5))
 | 0=>fun _ _ _ _ _ _ r h=>by simp [bA.l0] at h
 | k+1=>by
  have ih0:=bA.bg k
  ·intro y0 y1 y2 y3 y4 y5
   unfold bA.l0
   repeat' first
   | (with_reducible first | exact ih0 _ _ _ _ _ _ | exact LeO.refl _ | exact LeO.none _ | refine LeO.ite ?_ ?_ | refine LeO.bind ?_ (fun _=>?_))
   | exact ih0 _ _ _ _ _ _
   | exact LeO.none _
   | refine LeO.ite ?_ ?_
   | refine LeO.bind ?_ (fun _=>?_)
theorem bA.mono:∀ a0 a1 k,LeO (bA.f k a0 a1) (bA.f (k+1) a0 a1):=by
 intro a0 a1 k
 have ih0:=bA.bg k
 unfold bA.f
 repeat' first
  | (with_reducible first | exact ih0 _ _ _ _ _ _ | exact LeO.refl _ | exact LeO.none _ | refine LeO.ite ?_ ?_ | refine LeO.bind ?_ (fun _=>?_))
  | exact ih0 _ _ _ _ _ _
  | exact LeO.none _
  | refine LeO.ite ?_ ?_
  | refine LeO.bind ?_ (fun _=>?_)
def bm.f (k:Nat) (l0:List Int) (b1_ b2_:Int) (l1:List Int):Option (List Int):=(bA.f k ((l0.take b2_.toNat).drop b1_.toNat) l1).bind fun p=>some (l0.take b1_.toNat++p++l0.drop b2_.toNat)
theorem bm.mono:∀ (l0:List Int) (b1_ b2_:Int) (l1:List Int) k,LeO (bm.f k l0 b1_ b2_ l1) (bm.f (k+1) l0 b1_ b2_ l1):=by
 intro l0 b1_ b2_ l1 k
 unfold bm.f
 exact LeO.bind (bA.mono _ _ _) (fun _=>LeO.refl _)
def bU.l0:Nat→List Int→Int→Int→List Int→Int→Int→Option (List Int)
 | 0,_,_,_,_,_,_=>none
 | k+1,x0,x5,x6,x7,x25,x26=>if x26<x25 then (if 0≤(wrap64 (x26+x5)) then (if (wrap64 (x26+x5))<(x0.length:Int) then (if (wrap64 ((wrap64 (x26+x5))+1))<(x0.length:Int) then (if 0≤(wrap64 ((wrap64 (x26+x5))+1)) then (if 0≤x6 then (if 0≤x26 then (if x26<(x7.length:Int) then (bU.l0 k x0 x5 x6 (x7.set (x26:Int).toNat ((shr .u64 (Go.bits .or .u64 (IntKind.u64.wrap (rd x0 (wrap64 (x26+x5)))) (IntKind.u64.wrap ((IntKind.u64.wrap (rd x0 (wrap64 ((wrap64 (x26+x5))+1))))*4294967296))) x6) % 4294967296)) x25 (wrap64 (x26+1))) else (none)) else (none)) else (none)) else (none)) else (if 0≤x6 then (if 0≤x26 then (if x26<(x7.length:Int) then (bU.l0 k x0 x5 x6 (x7.set (x26:Int).toNat ((shr .u64 (IntKind.u64.wrap (rd x0 (wrap64 (x26+x5)))) x6) % 4294967296)) x25 (wrap64 (x26+1))) else (none)) else (none)) else (none))) else (none)) else (none)) else ((aQ.f k x7).bind fun t159=>(some t159))
def bU.f (k:Nat) (l0:List Int) (a1:Int):Option (List Int):=if (wrap64 (Int.tdiv a1 32))≥(l0.length:Int) then (some ([]:List Int)) else (if 0≤(wrap64 ((l0.length:Int)-(wrap64 (Int.tdiv a1 32)))) then (if (wrap64 ((l0.length:Int)-(wrap64 (Int.tdiv a1 32))):Int).toNat≤70368744177664 then ((some (List.replicate (wrap64 ((l0.length:Int)-(wrap64 (Int.tdiv a1 32))):Int).toNat 0:List Int)).bind fun y152=>(bU.l0 k l0 (wrap64 (Int.tdiv a1 32)) (IntKind.u64.wrap (Int.tmod a1 32)) y152 (y152.length:Int) 0)) else (none)) else (none))
theorem bU.bg:∀ k,(∀ y0 y1 y2 y3 y4 y5,LeO (bU.l0 k y0 y1 y2 y3 y4 y5) (bU.l0 (k+1) y0 y1 y2 y3 y4 y5))
 | 0=>fun _ _ _ _ _ _ r h=>by simp [bU.l0] at h
 | k+1=>by
  have ih0:=bU.bg k
  ·intro y0 y1 y2 y3 y4 y5
   unfold bU.l0
   repeat' first
   | (with_reducible first | exact ih0 _ _ _ _ _ _ | exact aQ.mono _ _ | exact LeO.refl _ | exact LeO.none _ | refine LeO.ite ?_ ?_ | refine LeO.bind ?_ (fun _=>?_))
   | exact ih0 _ _ _ _ _ _
   | exact aQ.mono _ _
   | exact LeO.none _
   | refine LeO.ite ?_ ?_
   | refine LeO.bind ?_ (fun _=>?_)
theorem bU.mono:∀ a0 a1 k,LeO (bU.f k a0 a1) (bU.f (k+1) a0 a1):=by
 intro a0 a1 k
 have ih0:=bU.bg k
 unfold bU.f
 repeat' first
  | (with_reducible first | exact ih0 _ _ _ _ _ _ | exact aQ.mono _ _ | exact LeO.refl _ | exact LeO.none _ | refine LeO.ite ?_ ?_ | refine LeO.bind ?_ (fun _=>?_))
  | exact ih0 _ _ _ _ _ _
  | exact aQ.mono _ _
  | exact LeO.none _
  | refine LeO.ite ?_ ?_
  | refine LeO.bind ?_ (fun _=>?_)
mutual
def aC.l0:Nat→List Int→Int→List Int→List Int→Int→Int→Int→Int→Option (List Int×List Int)
 | 0,_,_,_,_,_,_,_,_=>none
 | k+1,x4,x8,x9,x10,x11,x12,x13,x14=>if x14≥0 then (if 0≤(wrap64 (x14+x11)) then (if (wrap64 (x14+x11))<(x10.length:Int) then (if 0≤(wrap64 ((wrap64 (x14+x11))-1)) then (if (wrap64 ((wrap64 (x14+x11))-1))<(x10.length:Int) then (if x12=0 then (none) else (aC.l1 k x4 x8 x9 x10 x11 x12 x13 x14 (IntKind.u64.wrap (Int.tdiv (Go.bits .or .u64 (IntKind.u64.wrap ((IntKind.u64.wrap (rd x10 (wrap64 (x14+x11))))*4294967296)) (IntKind.u64.wrap (rd x10 (wrap64 ((wrap64 (x14+x11))-1))))) x12)) (Int.tmod (Go.bits .or .u64 (IntKind.u64.wrap ((IntKind.u64.wrap (rd x10 (wrap64 (x14+x11))))*4294967296)) (IntKind.u64.wrap (rd x10 (wrap64 ((wrap64 (x14+x11))-1))))) x12))) else (none)) else (none)) else (none)) else (none)) else ((aQ.f k x4).bind fun t191=>((aQ.f k x10).bind fun t194=>((bU.f k t194 x8).bind fun t197=>(some (t191,t197)))))
def aC.j3:Nat→List Int→Int→List Int→List Int→Int→Int→Int→Int→Int→Option (List Int×List Int)
 | 0,_,_,_,_,_,_,_,_,_=>none
 | k+1,x4,x8,x9,x10,x11,x12,x13,x14,x16=>if 0≤x14 then (if x14<(wrap64 ((wrap64 (x14+x11))+1)) then (if (wrap64 ((wrap64 (x14+x11))+1))≤(x10.length:Int) then ((aZ.f k x10 x14 (wrap64 ((wrap64 (x14+x11))+1)) x9 x16).bind fun bt204=>(if bt204.1=true then ((bm.f k bt204.2 x14 (wrap64 ((wrap64 (x14+x11))+1)) x9).bind fun t207=>(if x14<(x4.length:Int) then (aC.l0 k (x4.set (x14:Int).toNat ((IntKind.u64.wrap (x16-1)) % 4294967296)) x8 x9 t207 x11 x12 x13 (wrap64 (x14-1))) else (none))) else (if x14<(x4.length:Int) then (aC.l0 k (x4.set (x14:Int).toNat ((x16) % 4294967296)) x8 x9 bt204.2 x11 x12 x13 (wrap64 (x14-1))) else (none)))) else (none)) else (none)) else (none)
def aC.l1:Nat→List Int→Int→List Int→List Int→Int→Int→Int→Int→Int→Int→Option (List Int×List Int)
 | 0,_,_,_,_,_,_,_,_,_,_=>none
 | k+1,x4,x8,x9,x10,x11,x12,x13,x14,x16,x17=>if x16≥4294967296 then (aC.j2 k x4 x8 x9 x10 x11 x12 x13 x14 x16 x17 true) else (if 0≤(wrap64 ((wrap64 (x14+x11))-2)) then (if (wrap64 ((wrap64 (x14+x11))-2))<(x10.length:Int) then (aC.j2 k x4 x8 x9 x10 x11 x12 x13 x14 x16 x17 (decide ((IntKind.u64.wrap (x16*x13))>(Go.bits .or .u64 (IntKind.u64.wrap (x17*4294967296)) (IntKind.u64.wrap (rd x10 (wrap64 ((wrap64 (x14+x11))-2)))))))) else (none)) else (none))
def aC.j2:Nat→List Int→Int→List Int→List Int→Int→Int→Int→Int→Int→Int→Bool→Option (List Int×List Int)
 | 0,_,_,_,_,_,_,_,_,_,_,_=>none
 | k+1,x4,x8,x9,x10,x11,x12,x13,x14,x16,x17,x127=>if x127=true then (if (IntKind.u64.wrap (x17+x12))≥4294967296 then (aC.j3 k x4 x8 x9 x10 x11 x12 x13 x14 (IntKind.u64.wrap (x16-1))) else (aC.l1 k x4 x8 x9 x10 x11 x12 x13 x14 (IntKind.u64.wrap (x16-1)) (IntKind.u64.wrap (x17+x12)))) else (aC.j3 k x4 x8 x9 x10 x11 x12 x13 x14 x16)
end
def aC.f (k:Nat) (l0:List Int) (l1:List Int):Option (List Int×List Int):=(bQ.f k l0 l1).bind fun t162=>(if t162<0 then (if ([]:List Int).length+l0.length<35184372088832 then (some (([]:List Int),(([]:List Int)++l0))) else (none)) else (if (l1.length:Int)=1 then (if 0<(l1.length:Int) then ((bb.f k l0 (rd l1 0)).bind fun bt167=>((bw.f k (IntKind.u64.wrap (bt167.2))).bind fun t171=>(some (bt167.1,t171)))) else (none)) else (if 0≤(wrap64 ((l1.length:Int)-1)) then (if (wrap64 ((l1.length:Int)-1))<(l1.length:Int) then ((bits_LeadingZeros32.f (rd l1 (wrap64 ((l1.length:Int)-1)))).bind fun t175=>((cd.f k l1 t175).bind fun t176=>(if 0≤(wrap64 ((l0.length:Int)+1)) then (if (wrap64 ((l0.length:Int)+1):Int).toNat≤70368744177664 then ((some (List.replicate (wrap64 ((l0.length:Int)+1):Int).toNat 0:List Int)).bind fun y179=>((cd.f k l0 t175).bind fun t182=>(if 0≤(wrap64 ((y179.length:Int)-(t176.length:Int))) then (if (wrap64 ((y179.length:Int)-(t176.length:Int)):Int).toNat≤70368744177664 then (if 0≤(wrap64 ((t176.length:Int)-1)) then (if (wrap64 ((t176.length:Int)-1))<(t176.length:Int) then (if 0≤(wrap64 ((t176.length:Int)-2)) then (if (wrap64 ((t176.length:Int)-2))<(t176.length:Int) then (aC.l0 k (List.replicate (wrap64 ((y179.length:Int)-(t176.length:Int)):Int).toNat 0) t175 t176 (cpy y179 t182) (t176.length:Int) (IntKind.u64.wrap (rd t176 (wrap64 ((t176.length:Int)-1)))) (IntKind.u64.wrap (rd t176 (wrap64 ((t176.length:Int)-2)))) (wrap64 ((wrap64 ((y179.length:Int)-(t176.length:Int)))-1))) else (none)) else (none)) else (none)) else (none)) else (none)) else (none)))) else (none)) else (none)))) else (none)) else (none))))
theorem aC.bg:∀ k,(∀ y0 y1 y2 y3 y4 y5 y6 y7,LeO (aC.l0 k y0 y1 y2 y3 y4 y5 y6 y7) (aC.l0 (k+1) y0 y1 y2 y3 y4 y5 y6 y7))∧(∀ y0 y1 y2 y3 y4 y5 y6 y7 y8,LeO (aC.j3 k y0 y1 y2 y3 y4 y5 y6 y7 y8) (aC.j3 (k+1) y0 y1 y2 y3 y4 y5 y6 y7 y8))∧(∀ y0 y1 y2 y3 y4 y5 y6 y7 y8 y9,LeO (aC.l1 k y0 y1 y2 y3 y4 y5 y6 y7 y8 y9) (aC.l1 (k+1) y0 y1 y2 y3 y4 y5 y6 y7 y8 y9))∧(∀ y0 y1 y2 y3 y4 y5 y6 y7 y8 y9 y10,LeO (aC.j2 k y0 y1 y2 y3 y4 y5 y6 y7 y8 y9 y10) (aC.j2 (k+1) y0 y1 y2 y3 y4 y5 y6 y7 y8 y9 y10))
 | 0=>⟨fun _ _ _ _ _ _ _ _ r h=>by simp [aC.l0] at h,fun _ _ _ _ _ _ _ _ _ r h=>by simp [aC.j3] at h,fun _ _ _ _ _ _ _ _ _ _ r h=>by simp [aC.l1] at h,fun _ _ _ _ _ _ _ _ _ _ _ r h=>by simp [aC.j2] at h⟩
 | k+1=>by
  obtain ⟨ih0,ih1,ih2,ih3⟩:=aC.bg k
  refine ⟨?_,?_,?_,?_⟩
  ·intro y0 y1 y2 y3 y4 y5 y6 y7
   unfold aC.l0
   repeat' first
   | (with_reducible first | exact ih0 _ _ _ _ _ _ _ _ | exact ih1 _ _ _ _ _ _ _ _ _ | exact ih2 _ _ _ _ _ _ _ _ _ _ | exact ih3 _ _ _ _ _ _ _ _ _ _ _ | exact bQ.mono _ _ _ | exact bw.mono _ _ | exact cd.mono _ _ _ | exact bU.mono _ _ _ | exact aQ.mono _ _ | exact bb.mono _ _ _ | exact bm.mono _ _ _ _ _ | exact aZ.mono _ _ _ _ _ _ | exact LeO.refl _ | exact LeO.none _ | refine LeO.ite ?_ ?_ | refine LeO.bind ?_ (fun _=>?_))
   | exact ih0 _ _ _ _ _ _ _ _
   | exact ih1 _ _ _ _ _ _ _ _ _
   | exact ih2 _ _ _ _ _ _ _ _ _ _
   | exact ih3 _ _ _ _ _ _ _ _ _ _ _
   | exact bQ.mono _ _ _
   | exact bw.mono _ _
   | exact cd.mono _ _ _
   | exact bU.mono _ _ _
   | exact aQ.mono _ _
   | exact bb.mono _ _ _
   | exact bm.mono _ _ _ _ _
   | exact aZ.mono _ _ _ _ _ _
   | exact LeO.none _
   | refine LeO.ite ?_ ?_
   | refine LeO.bind ?_ (fun _=>?_)
  ·intro y0 y1 y2 y3 y4 y5 y6 y7 y8
   unfold aC.j3
   repeat' first
   | (with_reducible first | exact ih0 _ _ _ _ _ _ _ _ | exact ih1 _ _ _ _ _ _ _ _ _ | exact ih2 _ _ _ _ _ _ _ _ _ _ | exact ih3 _ _ _ _ _ _ _ _ _ _ _ | exact bQ.mono _ _ _ | exact bw.mono _ _ | exact cd.mono _ _ _ | exact bU.mono _ _ _ | exact aQ.mono _ _ | exact bb.mono _ _ _ | exact bm.mono _ _ _ _ _ | exact aZ.mono _ _ _ _ _ _ | exact LeO.refl _ | exact LeO.none _ | refine LeO.ite ?_ ?_ | refine LeO.bind ?_ (fun _=>?_))
   | exact ih0 _ _ _ _ _ _ _ _
   | exact ih1 _ _ _ _ _ _ _ _ _
   | exact ih2 _ _ _ _ _ _ _ _ _ _
   | exact ih3 _ _ _ _ _ _ _ _ _ _ _
   | exact bQ.mono _ _ _
   | exact bw.mono _ _
   | exact cd.mono _ _ _
   | exact bU.mono _ _ _
   | exact aQ.mono _ _
   | exact bb.mono _ _ _
   | exact bm.mono _ _ _ _ _
   | exact aZ.mono _ _ _ _ _ _
   | exact LeO.none _
   | refine LeO.ite ?_ ?_
   | refine LeO.bind ?_ (fun _=>?_)
  ·intro y0 y1 y2 y3 y4 y5 y6 y7 y8 y9
   unfold aC.l1
   repeat' first
   | (with_reducible first | exact ih0 _ _ _ _ _ _ _ _ | exact ih1 _ _ _ _ _ _ _ _ _ | exact ih2 _ _ _ _ _ _ _ _ _ _ | exact ih3 _ _ _ _ _ _ _ _ _ _ _ | exact bQ.mono _ _ _ | exact bw.mono _ _ | exact cd.mono _ _ _ | exact bU.mono _ _ _ | exact aQ.mono _ _ | exact bb.mono _ _ _ | exact bm.mono _ _ _ _ _ | exact aZ.mono _ _ _ _ _ _ | exact LeO.refl _ | exact LeO.none _ | refine LeO.ite ?_ ?_ | refine LeO.bind ?_ (fun _=>?_))
   | exact ih0 _ _ _ _ _ _ _ _
   | exact ih1 _ _ _ _ _ _ _ _ _
   | exact ih2 _ _ _ _ _ _ _ _ _ _
   | exact ih3 _ _ _ _ _ _ _ _ _ _ _
   | exact bQ.mono _ _ _
   | exact bw.mono _ _
   | exact cd.mono _ _ _
   | exact bU.mono _ _ _
   | exact aQ.mono _ _
   | exact bb.mono _ _ _
   | exact bm.mono _ _ _ _ _
   | exact aZ.mono _ _ _ _ _ _
   | exact LeO.none _
   | refine LeO.ite ?_ ?_
   | refine LeO.bind ?_ (fun _=>?_)
  ·intro y0 y1 y2 y3 y4 y5 y6 y7 y8 y9 y10
   unfold aC.j2
   repeat' first
   | (with_reducible first | exact ih0 _ _ _ _ _ _ _ _ | exact ih1 _ _ _ _ _ _ _ _ _ | exact ih2 _ _ _ _ _ _ _ _ _ _ | exact ih3 _ _ _ _ _ _ _ _ _ _ _ | exact bQ.mono _ _ _ | exact bw.mono _ _ | exact cd.mono _ _ _ | exact bU.mono _ _ _ | exact aQ.mono _ _ | exact bb.mono _ _ _ | exact bm.mono _ _ _ _ _ | exact aZ.mono _ _ _ _ _ _ | exact LeO.refl _ | exact LeO.none _ | refine LeO.ite ?_ ?_ | refine LeO.bind ?_ (fun _=>?_))
   | exact ih0 _ _ _ _ _ _ _ _
   | exact ih1 _ _ _ _ _ _ _ _ _
   | exact ih2 _ _ _ _ _ _ _ _ _ _
   | exact ih3 _ _ _ _ _ _ _ _ _ _ _
   | exact bQ.mono _ _ _
   | exact bw.mono _ _
   | exact cd.mono _ _ _
   | exact bU.mono _ _ _
   | exact aQ.mono _ _
   | exact bb.mono _ _ _
   | exact bm.mono _ _ _ _ _
   | exact aZ.mono _ _ _ _ _ _
   | exact LeO.none _
   | refine LeO.ite ?_ ?_
   | refine LeO.bind ?_ (fun _=>?_)
theorem aC.mono:∀ a0 a1 k,LeO (aC.f k a0 a1) (aC.f (k+1) a0 a1):=by
 intro a0 a1 k
 obtain ⟨ih0,ih1,ih2,ih3⟩:=aC.bg k
 unfold aC.f
 repeat' first
  | (with_reducible first | exact ih0 _ _ _ _ _ _ _ _ | exact ih1 _ _ _ _ _ _ _ _ _ | exact ih2 _ _ _ _ _ _ _ _ _ _ | exact ih3 _ _ _ _ _ _ _ _ _ _ _ | exact bQ.mono _ _ _ | exact bw.mono _ _ | exact cd.mono _ _ _ | exact bU.mono _ _ _ | exact aQ.mono _ _ | exact bb.mono _ _ _ | exact bm.mono _ _ _ _ _ | exact aZ.mono _ _ _ _ _ _ | exact LeO.refl _ | exact LeO.none _ | refine LeO.ite ?_ ?_ | refine LeO.bind ?_ (fun _=>?_))
  | exact ih0 _ _ _ _ _ _ _ _
  | exact ih1 _ _ _ _ _ _ _ _ _
  | exact ih2 _ _ _ _ _ _ _ _ _ _
  | exact ih3 _ _ _ _ _ _ _ _ _ _ _
  | exact bQ.mono _ _ _
  | exact bw.mono _ _
  | exact cd.mono _ _ _
  | exact bU.mono _ _ _
  | exact aQ.mono _ _
  | exact bb.mono _ _ _
  | exact bm.mono _ _ _ _ _
  | exact aZ.mono _ _ _ _ _ _
  | exact LeO.none _
  | refine LeO.ite ?_ ?_
  | refine LeO.bind ?_ (fun _=>?_)
def cT.f (l0:List Int):Option (Int×Bool):=if (l0.length:Int)=0 then (some (0,true)) else (if (l0.length:Int)=1 then (if 0<(l0.length:Int) then (some (IntKind.u64.wrap (rd l0 0),true)) else (none)) else (if (l0.length:Int)=2 then (if 1<(l0.length:Int) then (if 0<(l0.length:Int) then (some (Go.bits .or .u64 (IntKind.u64.wrap ((IntKind.u64.wrap (rd l0 1))*4294967296)) (IntKind.u64.wrap (rd l0 0)),true)) else (none)) else (none)) else (some (0,false))))
def fi.f (l0:List Int):Option (Int):=if (l0.length:Int)=0 then (some 0) else (if 0≤(wrap64 ((l0.length:Int)-1)) then (if (wrap64 ((l0.length:Int)-1))<(l0.length:Int) then ((bits_LeadingZeros32.f (rd l0 (wrap64 ((l0.length:Int)-1)))).bind fun t214=>(some (wrap64 ((wrap64 (32*(l0.length:Int)))-t214)))) else (none)) else (none))
mutual
def bh.j0:Nat→List Int→List Int→Bool→Option (List Int)
 | 0,_,_,_=>none
 | k+1,x0,x1,x18=>if x18=true then (some ([]:List Int)) else (if 0≤(wrap64 ((x0.length:Int)+(x1.length:Int))) then (if (wrap64 ((x0.length:Int)+(x1.length:Int)):Int).toNat≤70368744177664 then (bh.l0 k x1 (List.replicate (wrap64 ((x0.length:Int)+(x1.length:Int)):Int).toNat 0) x0 (x0.length:Int) 0) else (none)) else (none))
def bh.l0:Nat→List Int→List Int→List Int→Int→Int→Option (List Int)
 | 0,_,_,_,_,_=>none
 | k+1,x1,x5,x25,x26,x27=>if x27<x26 then (if 0≤x27 then (if x27<(x25.length:Int) then (bh.l1 k x1 x5 x27 (rd x25 x27) 0 x25 x26 x27 x1 (x1.length:Int) 0) else (none)) else (none)) else ((aQ.f k x5).bind fun t218=>(some t218))
def bh.l1:Nat→List Int→List Int→Int→Int→Int→List Int→Int→Int→List Int→Int→Int→Option (List Int)
 | 0,_,_,_,_,_,_,_,_,_,_,_=>none
 | k+1,x1,x5,x6,x7,x8,x25,x26,x27,x32,x33,x34=>if x34<x33 then (if 0≤x34 then (if x34<(x32.length:Int) then (if 0≤(wrap64 (x6+x34)) then (if (wrap64 (x6+x34))<(x5.length:Int) then (bh.l1 k x1 (x5.set ((wrap64 (x6+x34)):Int).toNat ((IntKind.u64.wrap (x8+(IntKind.u64.wrap ((IntKind.u64.wrap ((IntKind.u64.wrap (x7))*(IntKind.u64.wrap (rd x32 x34))))+(IntKind.u64.wrap (rd x5 (wrap64 (x6+x34)))))))) % 4294967296)) x6 x7 ((IntKind.u64.wrap (x8+(IntKind.u64.wrap ((IntKind.u64.wrap ((IntKind.u64.wrap (x7))*(IntKind.u64.wrap (rd x32 x34))))+(IntKind.u64.wrap (rd x5 (wrap64 (x6+x34)))))))) / 4294967296) x25 x26 x27 x32 x33 (wrap64 (x34+1))) else (none)) else (none)) else (none)) else (none)) else (if 0≤(wrap64 (x6+(x1.length:Int))) then (if (wrap64 (x6+(x1.length:Int)))<(x5.length:Int) then (bh.l0 k x1 (x5.set ((wrap64 (x6+(x1.length:Int))):Int).toNat ((x8) % 4294967296)) x25 x26 (wrap64 (x27+1))) else (none)) else (none))
end
def bh.f (k:Nat) (l0:List Int) (l1:List Int):Option (List Int):=if (l0.length:Int)=0 then (bh.j0 k l0 l1 true) else (bh.j0 k l0 l1 ((l1.length:Int)==0))
theorem bh.bg:∀ k,(∀ y0 y1 y2,LeO (bh.j0 k y0 y1 y2) (bh.j0 (k+1) y0 y1 y2))∧(∀ y0 y1 y2 y3 y4,LeO (bh.l0 k y0 y1 y2 y3 y4) (bh.l0 (k+1) y0 y1 y2 y3 y4))∧(∀ y0 y1 y2 y3 y4 y5 y6 y7 y8 y9 y10,LeO (bh.l1 k y0 y1 y2 y3 y4 y5 y6 y7 y8 y9 y10) (bh.l1 (k+1) y0 y1 y2 y3 y4 y5 y6 y7 y8 y9 y10))
 | 0=>⟨fun _ _ _ r h=>by simp [bh.j0] at h,fun _ _ _ _ _ r h=>by simp [bh.l0] at h,fun _ _ _ _ _ _ _ _ _ _ _ r h=>by simp [bh.l1] at h⟩
 | k+1=>by
  obtain ⟨ih0,ih1,ih2⟩:=bh.bg k
  refine ⟨?_,?_,?_⟩
  ·intro y0 y1 y2
   unfold bh.j0
   repeat' first
   | (with_reducible first | exact ih0 _ _ _ | exact ih1 _ _ _ _ _ | exact ih2 _ _ _ _ _ _ _ _ _ _ _ | exact aQ.mono _ _ | exact LeO.refl _ | exact LeO.none _ | refine LeO.ite ?_ ?_ | refine LeO.bind ?_ (fun _=>?_))
   | exact ih0 _ _ _
   | exact ih1 _ _ _ _ _
   | exact ih2 _ _ _ _ _ _ _ _ _ _ _
   | exact aQ.mono _ _
   | exact LeO.none _
   | refine LeO.ite ?_ ?_
   | refine LeO.bind ?_ (fun _=>?_)
  ·intro y0 y1 y2 y3 y4
   unfold bh.l0
   repeat' first
   | (with_reducible first | exact ih0 _ _ _ | exact ih1 _ _ _ _ _ | exact ih2 _ _ _ _ _ _ _ _ _ _ _ | exact aQ.mono _ _ | exact LeO.refl _ | exact LeO.none _ | refine LeO.ite ?_ ?_ | refine LeO.bind ?_ (fun _=>?_))
   | exact ih0 _ _ _
   | exact ih1 _ _ _ _ _
   | exact ih2 _ _ _ _ _ _ _ _ _ _ _
   | exact aQ.mono _ _
   | exact LeO.none _
   | refine LeO.ite ?_ ?_
   | refine LeO.bind ?_ (fun _=>?_)
  ·intro y0 y1 y2 y3 y4 y5 y6 y7 y8 y9 y10
   unfold bh.l1
   repeat' first
   | (with_reducible first | exact ih0 _ _ _ | exact ih1 _ _ _ _ _ | exact ih2 _ _ _ _ _ _ _ _ _ _ _ | exact aQ.mono _ _ | exact LeO.refl _ | exact LeO.none _ | refine LeO.ite ?_ ?_ | refine LeO.bind ?_ (fun _=>?_))
   | exact ih0 _ _ _
   | exact ih1 _ _ _ _ _
   | exact ih2 _ _ _ _ _ _ _ _ _ _ _
   | exact aQ.mono _ _
   | exact LeO.none _
   | refine LeO.ite ?_ ?_
   | refine LeO.bind ?_ (fun _=>?_)
theorem bh.mono:∀ a0 a1 k,LeO (bh.f k a0 a1) (bh.f (k+1) a0 a1):=by
 intro a0 a1 k
 obtain ⟨ih0,ih1,ih2⟩:=bh.bg k
 unfold bh.f
 repeat' first
  | (with_reducible first | exact ih0 _ _ _ | exact ih1 _ _ _ _ _ | exact ih2 _ _ _ _ _ _ _ _ _ _ _ | exact aQ.mono _ _ | exact LeO.refl _ | exact LeO.none _ | refine LeO.ite ?_ ?_ | refine LeO.bind ?_ (fun _=>?_))
  | exact ih0 _ _ _
  | exact ih1 _ _ _ _ _
  | exact ih2 _ _ _ _ _ _ _ _ _ _ _
  | exact aQ.mono _ _
  | exact LeO.none _
  | refine LeO.ite ?_ ?_
  | refine LeO.bind ?_ (fun _=>?_)
def cf.l0:Nat→List Int→List Int→Int→List Int→Int→Int→Option (List Int)
 | 0,_,_,_,_,_,_=>none
 | k+1,x1,x5,x6,x13,x14,x15=>if x15<x14 then (if 0≤x15 then (if x15<(x13.length:Int) then (if x15<(x1.length:Int) then (if x15<(x5.length:Int) then (cf.l0 k x1 (x5.set (x15:Int).toNat ((IntKind.u64.wrap ((IntKind.u64.wrap ((IntKind.u64.wrap (rd x13 x15))-x6))-(IntKind.u64.wrap (rd x1 x15)))) % 4294967296)) ((IntKind.u64.wrap ((IntKind.u64.wrap ((IntKind.u64.wrap (rd x13 x15))-x6))-(IntKind.u64.wrap (rd x1 x15)))) / 9223372036854775808) x13 x14 (wrap64 (x15+1))) else (none)) else (if x15<(x5.length:Int) then (cf.l0 k x1 (x5.set (x15:Int).toNat ((IntKind.u64.wrap ((IntKind.u64.wrap (rd x13 x15))-x6)) % 4294967296)) ((IntKind.u64.wrap ((IntKind.u64.wrap (rd x13 x15))-x6)) / 9223372036854775808) x13 x14 (wrap64 (x15+1))) else (none))) else (none)) else (none)) else ((aQ.f k x5).bind fun t233=>(some t233))
def cf.f (k:Nat) (l0:List Int) (l1:List Int):Option (List Int):=if 0≤(l0.length:Int) then (if ((l0.length:Int):Int).toNat≤70368744177664 then (cf.l0 k l1 (List.replicate ((l0.length:Int):Int).toNat 0) 0 l0 (l0.length:Int) 0) else (none)) else (none)
theorem cf.bg:∀ k,(∀ y0 y1 y2 y3 y4 y5,LeO (cf.l0 k y0 y1 y2 y3 y4 y5) (cf.l0 (k+1) y0 y1 y2 y3 y4 y5))
 | 0=>fun _ _ _ _ _ _ r h=>by simp [cf.l0] at h
 | k+1=>by
  have ih0:=cf.bg k
  ·intro y0 y1 y2 y3 y4 y5
   unfold cf.l0
   repeat' first
   | (with_reducible first | exact ih0 _ _ _ _ _ _ | exact aQ.mono _ _ | exact LeO.refl _ | exact LeO.none _ | refine LeO.ite ?_ ?_ | refine LeO.bind ?_ (fun _=>?_))
   | exact ih0 _ _ _ _ _ _
   | exact aQ.mono _ _
   | exact LeO.none _
   | refine LeO.ite ?_ ?_
   | refine LeO.bind ?_ (fun _=>?_)
theorem cf.mono:∀ a0 a1 k,LeO (cf.f k a0 a1) (cf.f (k+1) a0 a1):=by
 intro a0 a1 k
 have ih0:=cf.bg k
 unfold cf.f
 repeat' first
  | (with_reducible first | exact ih0 _ _ _ _ _ _ | exact aQ.mono _ _ | exact LeO.refl _ | exact LeO.none _ | refine LeO.ite ?_ ?_ | refine LeO.bind ?_ (fun _=>?_))
  | exact ih0 _ _ _ _ _ _
  | exact aQ.mono _ _
  | exact LeO.none _
  | refine LeO.ite ?_ ?_
  | refine LeO.bind ?_ (fun _=>?_)
def aY.j0:Nat→List Int→List Int→Int→Int→Bool→Option (List Int)
 | 0,_,_,_,_,_=>none
 | k+1,x0,x1,x2,x3,x14=>if x14=true then ((bw.f k (IntKind.u64.wrap (x3))).bind fun t236=>((bh.f k x1 t236).bind fun t239=>((bw.f k (IntKind.u64.wrap (wrap64 (-x2)))).bind fun t242=>((bh.f k x0 t242).bind fun t245=>((cf.f k t239 t245).bind fun t248=>(some t248)))))) else ((bw.f k (IntKind.u64.wrap (x2))).bind fun t251=>((bh.f k x0 t251).bind fun t254=>((bw.f k (IntKind.u64.wrap (wrap64 (-x3)))).bind fun t257=>((bh.f k x1 t257).bind fun t260=>((cf.f k t254 t260).bind fun t263=>(some t263))))))
def aY.f (k:Nat) (l0:List Int) (l1:List Int) (a2:Int) (a3:Int):Option (List Int):=if a2<0 then (aY.j0 k l0 l1 a2 a3 true) else (aY.j0 k l0 l1 a2 a3 (decide (a3>0)))
theorem aY.bg:∀ k,(∀ y0 y1 y2 y3 y4,LeO (aY.j0 k y0 y1 y2 y3 y4) (aY.j0 (k+1) y0 y1 y2 y3 y4))
 | 0=>fun _ _ _ _ _ r h=>by simp [aY.j0] at h
 | k+1=>by
  have ih0:=aY.bg k
  ·intro y0 y1 y2 y3 y4
   unfold aY.j0
   repeat' first
   | (with_reducible first | exact ih0 _ _ _ _ _ | exact bw.mono _ _ | exact bh.mono _ _ _ | exact cf.mono _ _ _ | exact LeO.refl _ | exact LeO.none _ | refine LeO.ite ?_ ?_ | refine LeO.bind ?_ (fun _=>?_))
   | exact ih0 _ _ _ _ _
   | exact bw.mono _ _
   | exact bh.mono _ _ _
   | exact cf.mono _ _ _
   | exact LeO.none _
   | refine LeO.ite ?_ ?_
   | refine LeO.bind ?_ (fun _=>?_)
theorem aY.mono:∀ a0 a1 a2 a3 k,LeO (aY.f k a0 a1 a2 a3) (aY.f (k+1) a0 a1 a2 a3):=by
 intro a0 a1 a2 a3 k
 have ih0:=aY.bg k
 unfold aY.f
 repeat' first
  | (with_reducible first | exact ih0 _ _ _ _ _ | exact bw.mono _ _ | exact bh.mono _ _ _ | exact cf.mono _ _ _ | exact LeO.refl _ | exact LeO.none _ | refine LeO.ite ?_ ?_ | refine LeO.bind ?_ (fun _=>?_))
  | exact ih0 _ _ _ _ _
  | exact bw.mono _ _
  | exact bh.mono _ _ _
  | exact cf.mono _ _ _
  | exact LeO.none _
  | refine LeO.ite ?_ ?_
  | refine LeO.bind ?_ (fun _=>?_)
mutual
def aO.j2:Nat→List Int→List Int→Int→Int→Int→Int→Option (List Int×List Int×Bool)
 | 0,_,_,_,_,_,_=>none
 | k+1,x0,x1,x12,x13,x14,x15=>if x13=0 then (some (([]:List Int),([]:List Int),false)) else ((aY.f k x0 x1 x12 x13).bind fun t278=>((aY.f k x0 x1 x14 x15).bind fun t281=>(some (t278,t281,true))))
def aO.l0:Nat→List Int→List Int→Int→Int→Int→Int→Int→Int→Option (List Int×List Int×Bool)
 | 0,_,_,_,_,_,_,_,_=>none
 | k+1,x0,x1,x12,x13,x14,x15,x16,x17=>if (wrap64 (x17+x14))=0 then (aO.j1 k x0 x1 x12 x13 x14 x15 x16 x17 false) else (aO.j1 k x0 x1 x12 x13 x14 x15 x16 x17 ((wrap64 (x17+x15)) != 0))
def aO.j1:Nat→List Int→List Int→Int→Int→Int→Int→Int→Int→Bool→Option (List Int×List Int×Bool)
 | 0,_,_,_,_,_,_,_,_,_=>none
 | k+1,x0,x1,x12,x13,x14,x15,x16,x17,x55=>if x55=true then (if (wrap64 (x17+x14))=0 then (none) else (if (wrap64 (x17+x15))=0 then (none) else (if (wrap64 (Int.tdiv (wrap64 (x16+x12)) (wrap64 (x17+x14))))=(wrap64 (Int.tdiv (wrap64 (x16+x13)) (wrap64 (x17+x15)))) then (aO.l0 k x0 x1 x14 x15 (wrap64 (x12-(wrap64 ((wrap64 (Int.tdiv (wrap64 (x16+x12)) (wrap64 (x17+x14))))*x14)))) (wrap64 (x13-(wrap64 ((wrap64 (Int.tdiv (wrap64 (x16+x12)) (wrap64 (x17+x14))))*x15)))) x17 (wrap64 (x16-(wrap64 ((wrap64 (Int.tdiv (wrap64 (x16+x12)) (wrap64 (x17+x14))))*x17))))) else (aO.j2 k x0 x1 x12 x13 x14 x15)))) else (aO.j2 k x0 x1 x12 x13 x14 x15)
end
def aO.f (k:Nat) (l0:List Int) (l1:List Int):Option (List Int×List Int×Bool):=(fi.f l0).bind fun t266=>((fi.f l1).bind fun t267=>(if t267<(wrap64 (t266-20)) then (some (([]:List Int),([]:List Int),false)) else ((bU.f k l0 (wrap64 (t266-31))).bind fun t268=>((cT.f t268).bind fun bt271=>((bU.f k l1 (wrap64 (t266-31))).bind fun t273=>((cT.f t273).bind fun bt276=>(aO.l0 k l0 l1 1 0 0 1 (wrap64 (bt271.1)) (wrap64 (bt276.1)))))))))
theorem aO.bg:∀ k,(∀ y0 y1 y2 y3 y4 y5,LeO (aO.j2 k y0 y1 y2 y3 y4 y5) (aO.j2 (k+1) y0 y1 y2 y3 y4 y5))∧(∀ y0 y1 y2 y3 y4 y5 y6 y7,LeO (aO.l0 k y0 y1 y2 y3 y4 y5 y6 y7) (aO.l0 (k+1) y0 y1 y2 y3 y4 y5 y6 y7))∧(∀ y0 y1 y2 y3 y4 y5 y6 y7 y8,LeO (aO.j1 k y0 y1 y2 y3 y4 y5 y6 y7 y8) (aO.j1 (k+1) y0 y1 y2 y3 y4 y5 y6 y7 y8))
 | 0=>⟨fun _ _ _ _ _ _ r h=>by simp [aO.j2] at h,fun _ _ _ _ _ _ _ _ r h=>by simp [aO.l0] at h,fun _ _ _ _ _ _ _ _ _ r h=>by simp [aO.j1] at h⟩
 | k+1=>by
  obtain ⟨ih0,ih1,ih2⟩:=aO.bg k
  refine ⟨?_,?_,?_⟩
  ·intro y0 y1 y2 y3 y4 y5
   unfold aO.j2
   repeat' first
   | (with_reducible first | exact ih0 _ _ _ _ _ _ | exact ih1 _ _ _ _ _ _ _ _ | exact ih2 _ _ _ _ _ _ _ _ _ | exact bU.mono _ _ _ | exact aY.mono _ _ _ _ _ | exact LeO.refl _ | exact LeO.none _ | refine LeO.ite ?_ ?_ | refine LeO.bind ?_ (fun _=>?_))
   | exact ih0 _ _ _ _ _ _
   | exact ih1 _ _ _ _ _ _ _ _
   | exact ih2 _ _ _ _ _ _ _ _ _
   | exact bU.mono _ _ _
   | exact aY.mono _ _ _ _ _
   | exact LeO.none _
   | refine LeO.ite ?_ ?_
   | refine LeO.bind ?_ (fun _=>?_)
  ·intro y0 y1 y2 y3 y4 y5 y6 y7
   unfold aO.l0
   repeat' first
   | (with_reducible first | exact ih0 _ _ _ _ _ _ | exact ih1 _ _ _ _ _ _ _ _ | exact ih2 _ _ _ _ _ _ _ _ _ | exact bU.mono _ _ _ | exact aY.mono _ _ _ _ _ | exact LeO.refl _ | exact LeO.none _ | refine LeO.ite ?_ ?_ | refine LeO.bind ?_ (fun _=>?_))
   | exact ih0 _ _ _ _ _ _
   | exact ih1 _ _ _ _ _ _ _ _
   | exact ih2 _ _ _ _ _ _ _ _ _
   | exact bU.mono _ _ _
   | exact aY.mono _ _ _ _ _
   | exact LeO.none _
   | refine LeO.ite ?_ ?_
   | refine LeO.bind ?_ (fun _=>?_)
  ·intro y0 y1 y2 y3 y4 y5 y6 y7 y8
   unfold aO.j1
   repeat' first
   | (with_reducible first | exact ih0 _ _ _ _ _ _ | exact ih1 _ _ _ _ _ _ _ _ | exact ih2 _ _ _ _ _ _ _ _ _ | exact bU.mono _ _ _ | exact aY.mono _ _ _ _ _ | exact LeO.refl _ | exact LeO.none _ | refine LeO.ite ?_ ?_ | refine LeO.bind ?_ (fun _=>?_))
   | exact ih0 _ _ _ _ _ _
   | exact ih1 _ _ _ _ _ _ _ _
   | exact ih2 _ _ _ _ _ _ _ _ _
   | exact bU.mono _ _ _
   | exact aY.mono _ _ _ _ _
   | exact LeO.none _
   | refine LeO.ite ?_ ?_
   | refine LeO.bind ?_ (fun _=>?_)
theorem aO.mono:∀ a0 a1 k,LeO (aO.f k a0 a1) (aO.f (k+1) a0 a1):=by
 intro a0 a1 k
 obtain ⟨ih0,ih1,ih2⟩:=aO.bg k
 unfold aO.f
 repeat' first
  | (with_reducible first | exact ih0 _ _ _ _ _ _ | exact ih1 _ _ _ _ _ _ _ _ | exact ih2 _ _ _ _ _ _ _ _ _ | exact bU.mono _ _ _ | exact aY.mono _ _ _ _ _ | exact LeO.refl _ | exact LeO.none _ | refine LeO.ite ?_ ?_ | refine LeO.bind ?_ (fun _=>?_))
  | exact ih0 _ _ _ _ _ _
  | exact ih1 _ _ _ _ _ _ _ _
  | exact ih2 _ _ _ _ _ _ _ _ _
  | exact bU.mono _ _ _
  | exact aY.mono _ _ _ _ _
  | exact LeO.none _
  | refine LeO.ite ?_ ?_
  | refine LeO.bind ?_ (fun _=>?_)
mutual
def bE.j0:Nat→List Int→List Int→Option (List Int)
 | 0,_,_=>none
 | k+1,x0,x1=>bE.l0 k x0 x1
def bE.l0:Nat→List Int→List Int→Option (List Int)
 | 0,_,_=>none
 | k+1,x0,x1=>if (x1.length:Int)>2 then ((aO.f k x0 x1).bind fun bt285=>(if bt285.2.2=true then (bE.l0 k bt285.1 bt285.2.1) else ((aC.f k x0 x1).bind fun bt292=>(bE.l0 k x1 bt292.2)))) else (if (x1.length:Int)=0 then (if ([]:List Int).length+x0.length<35184372088832 then (some (([]:List Int)++x0)) else (none)) else ((aC.f k x0 x1).bind fun bt301=>((cT.f x1).bind fun bt307=>((cT.f bt301.2).bind fun bt309=>(bE.l1 k bt307.1 bt309.1)))))
def bE.l1:Nat→Int→Int→Option (List Int)
 | 0,_,_=>none
 | k+1,x12,x14=>if x14=0 then ((bw.f k x12).bind fun t311=>(some t311)) else (bE.l1 k x14 (Int.tmod x12 x14))
end
def bE.f (k:Nat) (l0:List Int) (l1:List Int):Option (List Int):=(bQ.f k l0 l1).bind fun t284=>(if t284<0 then (bE.j0 k l1 l0) else (bE.j0 k l0 l1))
theorem bE.bg:∀ k,(∀ y0 y1,LeO (bE.j0 k y0 y1) (bE.j0 (k+1) y0 y1))∧(∀ y0 y1,LeO (bE.l0 k y0 y1) (bE.l0 (k+1) y0 y1))∧(∀ y0 y1,LeO (bE.l1 k y0 y1) (bE.l1 (k+1) y0 y1))
 | 0=>⟨fun _ _ r h=>by simp [bE.j0] at h,fun _ _ r h=>by simp [bE.l0] at h,fun _ _ r h=>by simp [bE.l1] at h⟩
 | k+1=>by
  obtain ⟨ih0,ih1,ih2⟩:=bE.bg k
  refine ⟨?_,?_,?_⟩
  ·intro y0 y1
   unfold bE.j0
   repeat' first
   | (with_reducible first | exact ih0 _ _ | exact ih1 _ _ | exact ih2 _ _ | exact bQ.mono _ _ _ | exact aC.mono _ _ _ | exact bw.mono _ _ | exact aO.mono _ _ _ | exact LeO.refl _ | exact LeO.none _ | refine LeO.ite ?_ ?_ | refine LeO.bind ?_ (fun _=>?_))
   | exact ih0 _ _
   | exact ih1 _ _
   | exact ih2 _ _
   | exact bQ.mono _ _ _
   | exact aC.mono _ _ _
   | exact bw.mono _ _
   | exact aO.mono _ _ _
   | exact LeO.none _
   | refine LeO.ite ?_ ?_
   | refine LeO.bind ?_ (fun _=>?_)
  ·intro y0 y1
   unfold bE.l0
   repeat' first
   | (with_reducible first | exact ih0 _ _ | exact ih1 _ _ | exact ih2 _ _ | exact bQ.mono _ _ _ | exact aC.mono _ _ _ | exact bw.mono _ _ | exact aO.mono _ _ _ | exact LeO.refl _ | exact LeO.none _ | refine LeO.ite ?_ ?_ | refine LeO.bind ?_ (fun _=>?_))
   | exact ih0 _ _
   | exact ih1 _ _
   | exact ih2 _ _
   | exact bQ.mono _ _ _
   | exact aC.mono _ _ _
   | exact bw.mono _ _
   | exact aO.mono _ _ _
   | exact LeO.none _
   | refine LeO.ite ?_ ?_
   | refine LeO.bind ?_ (fun _=>?_)
  ·intro y0 y1
   unfold bE.l1
   repeat' first
   | (with_reducible first | exact ih0 _ _ | exact ih1 _ _ | exact ih2 _ _ | exact bQ.mono _ _ _ | exact aC.mono _ _ _ | exact bw.mono _ _ | exact aO.mono _ _ _ | exact LeO.refl _ | exact LeO.none _ | refine LeO.ite ?_ ?_ | refine LeO.bind ?_ (fun _=>?_))
   | exact ih0 _ _
   | exact ih1 _ _
   | exact ih2 _ _
   | exact bQ.mono _ _ _
   | exact aC.mono _ _ _
   | exact bw.mono _ _
   | exact aO.mono _ _ _
   | exact LeO.none _
   | refine LeO.ite ?_ ?_
   | refine LeO.bind ?_ (fun _=>?_)
theorem bE.mono:∀ a0 a1 k,LeO (bE.f k a0 a1) (bE.f (k+1) a0 a1):=by
 intro a0 a1 k
 obtain ⟨ih0,ih1,ih2⟩:=bE.bg k
 unfold bE.f
 repeat' first
  | (with_reducible first | exact ih0 _ _ | exact ih1 _ _ | exact ih2 _ _ | exact bQ.mono _ _ _ | exact aC.mono _ _ _ | exact bw.mono _ _ | exact aO.mono _ _ _ | exact LeO.refl _ | exact LeO.none _ | refine LeO.ite ?_ ?_ | refine LeO.bind ?_ (fun _=>?_))
  | exact ih0 _ _
  | exact ih1 _ _
  | exact ih2 _ _
  | exact bQ.mono _ _ _
  | exact aC.mono _ _ _
  | exact bw.mono _ _
  | exact aO.mono _ _ _
  | exact LeO.none _
  | refine LeO.ite ?_ ?_
  | refine LeO.bind ?_ (fun _=>?_)
def de.j0:Nat→Bool→Bool→List Int→List Int→Option (Bool)
 | 0,_,_,_,_=>none
 | k+1,x23,x315000,x315001,x315002=>if x23=true then (some false) else (if (x315001.length:Int)=0 then (if x315000=true then (some false) else (if (x315002.length:Int)=1 then (if 0<(x315002.length:Int) then (some ((rd x315002 0)==1)) else (none)) else (some false))) else (if (x315002.length:Int)=1 then (if 0<(x315002.length:Int) then (if (rd x315002 0)=1 then (some true) else ((bE.f k x315001 x315002).bind fun t319=>(if (t319.length:Int)=1 then (if 0<(t319.length:Int) then (some ((rd t319 0)==1)) else (none)) else (some false)))) else (none)) else ((bE.f k x315001 x315002).bind fun t323=>(if (t323.length:Int)=1 then (if 0<(t323.length:Int) then (some ((rd t323 0)==1)) else (none)) else (some false)))))
def de.f (k:Nat) (a0_0:Bool) (l0_1:List Int) (l0_2:List Int) (a1:Int):Option (Bool):=(fX.f l0_1 a1).bind fun t315=>(if t315=true then ((fX.f l0_2 a1).bind fun t316=>(if t316=true then (de.j0 k ((l0_2.length:Int)==0) a0_0 l0_1 l0_2) else (de.j0 k true a0_0 l0_1 l0_2))) else (de.j0 k true a0_0 l0_1 l0_2))
mutual
def bD.j0:Nat→Bool→Int→List (S96)→Option (Bool)
 | 0,_,_,_=>none
 | k+1,x21,x328000,x328001=>if x21=true then (some false) else (bD.l0 k x328001 (x328001.length:Int) 0 x328000 x328001)
def bD.l0:Nat→List (S96)→Int→Int→Int→List (S96)→Option (Bool)
 | 0,_,_,_,_,_=>none
 | k+1,x23,x24,x25,x328000,x328001=>if x25<x24 then (if 0≤x25 then (if x25<(x23.length:Int) then (if (((eS x23 x25).f0).length:Int)=x328000 then ((jR.f ((eS x23 x25).f1.f0) ((eS x23 x25).f1.f1) ((eS x23 x25).f1.f2) 200).bind fun t330=>(if t330=true then ((ly.f ((eS x23 x25).f1.f0) ((eS x23 x25).f1.f1) ((eS x23 x25).f1.f2)).bind fun t331=>(bD.j2 k x25 x23 x24 x25 (t331==0) x328000 x328001 ((eS x23 x25).f0) ((eS x23 x25).f1.f0) ((eS x23 x25).f1.f1) ((eS x23 x25).f1.f2))) else (bD.j2 k x25 x23 x24 x25 true x328000 x328001 ((eS x23 x25).f0) ((eS x23 x25).f1.f0) ((eS x23 x25).f1.f1) ((eS x23 x25).f1.f2)))) else (bD.j2 k x25 x23 x24 x25 true x328000 x328001 ((eS x23 x25).f0) ((eS x23 x25).f1.f0) ((eS x23 x25).f1.f1) ((eS x23 x25).f1.f2))) else (none)) else (none)) else (some true)
def bD.j2:Nat→Int→List (S96)→Int→Int→Bool→Int→List (S96)→List Int→Bool→List Int→List Int→Option (Bool)
 | 0,_,_,_,_,_,_,_,_,_,_,_=>none
 | k+1,x3,x23,x24,x25,x47,x328000,x328001,x330000,x330001,x330002,x330003=>if x47=true then (some false) else (bD.l1 k x3 0 x23 x24 x25 x330000 (x330000.length:Int) 0 x328000 x328001 x330000 x330001 x330002 x330003)
def bD.l1:Nat→Int→Int→List (S96)→Int→Int→List Int→Int→Int→Int→List (S96)→List Int→Bool→List Int→List Int→Option (Bool)
 | 0,_,_,_,_,_,_,_,_,_,_,_,_,_,_=>none
 | k+1,x3,x5,x23,x24,x25,x49,x50,x51,x328000,x328001,x330000,x330001,x330002,x330003=>if x51<x50 then (if 0≤x51 then (if x51<(x49.length:Int) then (if (rd x49 x51)<0 then (some false) else (if (rd x49 x51)>40 then (some false) else (bD.l1 k x3 (wrap64 (x5+(rd x49 x51))) x23 x24 x25 x49 x50 (wrap64 (x51+1)) x328000 x328001 x330000 x330001 x330002 x330003))) else (none)) else (none)) else (if x5>40 then (some false) else (if x3>0 then (if 0≤(wrap64 (x3-1)) then (if (wrap64 (x3-1))<(x328001.length:Int) then ((dU.f k ((eS x328001 (wrap64 (x3-1))).f0) x330000).bind fun t334=>(if t334≤0 then (some false) else ((de.f k x330001 x330002 x330003 200).bind fun t335=>(if t335=true then (bD.l0 k x23 x24 (wrap64 (x25+1)) x328000 x328001) else (some false))))) else (none)) else (none)) else ((de.f k x330001 x330002 x330003 200).bind fun t336=>(if t336=true then (bD.l0 k x23 x24 (wrap64 (x25+1)) x328000 x328001) else (some false)))))
end
def eI.f (l0:List Int):Option (Bool):=if (l0.length:Int)≤4096 then (if (l0.length:Int)=0 then (some true) else (if 0≤(wrap64 ((l0.length:Int)-1)) then (if (wrap64 ((l0.length:Int)-1))<(l0.length:Int) then (some ((rd l0 (wrap64 ((l0.length:Int)-1))) != 0)) else (none)) else (none))) else (some false)
mutual
def aS.l0:Nat→Int→Int→List Int→Option (List Int)
 | 0,_,_,_=>none
 | k+1,x0,x1,x5=>if x0>0 then (if x5.length<140737488355328 then (aS.l0 k (IntKind.u64.wrap (Int.tdiv x0 10)) x1 (x5++[(IntKind.u64.wrap (48+(Int.tmod x0 10))) % 256])) else (none)) else (if (x5.length:Int)<x1 then (if x5.length<140737488355328 then (aS.l0 k (IntKind.u64.wrap (Int.tdiv x0 10)) x1 (x5++[(IntKind.u64.wrap (48+(Int.tmod x0 10))) % 256])) else (none)) else (aS.l1 k x5 0 (wrap64 ((x5.length:Int)-1))))
def aS.l1:Nat→List Int→Int→Int→Option (List Int)
 | 0,_,_,_=>none
 | k+1,x5,x6,x7=>if x6<x7 then (if 0≤x7 then (if x7<(x5.length:Int) then (if 0≤x6 then (if x6<(x5.length:Int) then (aS.l1 k ((x5.set (x6:Int).toNat (rd x5 x7)).set (x7:Int).toNat (rd x5 x6)) (wrap64 (x6+1)) (wrap64 (x7-1))) else (none)) else (none)) else (none)) else (none)) else (some x5)
end
def aS.f (k:Nat) (a0:Int) (a1:Int):Option (List Int):=aS.l0 k a0 a1 ([]:List Int)
theorem aS.bg:∀ k,(∀ y0 y1 y2,LeO (aS.l0 k y0 y1 y2) (aS.l0 (k+1) y0 y1 y2))∧(∀ y0 y1 y2,LeO (aS.l1 k y0 y1 y2) (aS.l1 (k+1) y0 y1 y2))
 | 0=>⟨fun _ _ _ r h=>by simp [aS.l0] at h,fun _ _ _ r h=>by simp [aS.l1] at h⟩
 | k+1=>by
  obtain ⟨ih0,ih1⟩:=aS.bg k
  refine ⟨?_,?_⟩
  ·intro y0 y1 y2
   unfold aS.l0
   repeat' first
   | (with_reducible first | exact ih0 _ _ _ | exact ih1 _ _ _ | exact LeO.refl _ | exact LeO.none _ | refine LeO.ite ?_ ?_ | refine LeO.bind ?_ (fun _=>?_))
   | exact ih0 _ _ _
   | exact ih1 _ _ _
   | exact LeO.none _
   | refine LeO.ite ?_ ?_
   | refine LeO.bind ?_ (fun _=>?_)
  ·intro y0 y1 y2
   unfold aS.l1
   repeat' first
   | (with_reducible first | exact ih0 _ _ _ | exact ih1 _ _ _ | exact LeO.refl _ | exact LeO.none _ | refine LeO.ite ?_ ?_ | refine LeO.bind ?_ (fun _=>?_))
   | exact ih0 _ _ _
   | exact ih1 _ _ _
   | exact LeO.none _
   | refine LeO.ite ?_ ?_
   | refine LeO.bind ?_ (fun _=>?_)
theorem aS.mono:∀ a0 a1 k,LeO (aS.f k a0 a1) (aS.f (k+1) a0 a1):=by
 intro a0 a1 k
 obtain ⟨ih0,ih1⟩:=aS.bg k
 unfold aS.f
 repeat' first
  | (with_reducible first | exact ih0 _ _ _ | exact ih1 _ _ _ | exact LeO.refl _ | exact LeO.none _ | refine LeO.ite ?_ ?_ | refine LeO.bind ?_ (fun _=>?_))
  | exact ih0 _ _ _
  | exact ih1 _ _ _
  | exact LeO.none _
  | refine LeO.ite ?_ ?_
  | refine LeO.bind ?_ (fun _=>?_)
mutual
def bH.l0:Nat→List Int→List Int→List Int→Option (ByteArray×Int)
 | 0,_,_,_=>none
 | k+1,x0,x4,x5=>if (x0.length:Int)>0 then ((aC.f k x0 x5).bind fun bt355=>((cT.f bt355.2).bind fun bt361=>(if x4.length<17592186044416 then (bH.l0 k bt355.1 (x4++[bt361.1]) x5) else (none)))) else (if 0≤(wrap64 ((x4.length:Int)-1)) then (if (wrap64 ((x4.length:Int)-1))<(x4.length:Int) then ((aS.f k (rd x4 (wrap64 ((x4.length:Int)-1))) 0).bind fun t367=>(bH.l1 k x4 t367 (wrap64 ((x4.length:Int)-2)))) else (none)) else (none))
def bH.l1:Nat→List Int→List Int→Int→Option (ByteArray×Int)
 | 0,_,_,_=>none
 | k+1,x4,x10,x11=>if x11≥0 then (if 9≤281474976710656 then (if 0≤x11 then (if x11<(x4.length:Int) then ((aS.f k (rd x4 x11) 9).bind fun t374=>((some (cpy (List.replicate 9 0) t374:List Int)).bind fun y377=>(if x10.length+y377.length<140737488355328 then (bH.l1 k x4 (x10++y377) (wrap64 (x11-1))) else (none)))) else (none)) else (none)) else (none)) else (some (strOfNums x10,0))
end
def bH.f (k:Nat) (l0:List Int):Option (ByteArray×Int):=(eI.f l0).bind fun t351=>(if t351=true then (if (l0.length:Int)=0 then (some ((⟨#[48]⟩:ByteArray),0)) else ((bw.f k 1000000000).bind fun t352=>(bH.l0 k l0 ([]:List Int) t352))) else (some ((⟨#[]⟩:ByteArray),3)))
theorem bH.bg:∀ k,(∀ y0 y1 y2,LeO (bH.l0 k y0 y1 y2) (bH.l0 (k+1) y0 y1 y2))∧(∀ y0 y1 y2,LeO (bH.l1 k y0 y1 y2) (bH.l1 (k+1) y0 y1 y2))
 | 0=>⟨fun _ _ _ r h=>by simp [bH.l0] at h,fun _ _ _ r h=>by simp [bH.l1] at h⟩
 | k+1=>by
  obtain ⟨ih0,ih1⟩:=bH.bg k
  refine ⟨?_,?_⟩
  ·intro y0 y1 y2
   unfold bH.l0
   repeat' first
   | (with_reducible first | exact ih0 _ _ _ | exact ih1 _ _ _ | exact aC.mono _ _ _ | exact bw.mono _ _ | exact aS.mono _ _ _ | exact LeO.refl _ | exact LeO.none _ | refine LeO.ite ?_ ?_ | refine LeO.bind ?_ (fun _=>?_))
   | exact ih0 _ _ _
   | exact ih1 _ _ _
   | exact aC.mono _ _ _
   | exact bw.mono _ _
   | exact aS.mono _ _ _
   | exact LeO.none _
   | refine LeO.ite ?_ ?_
   | refine LeO.bind ?_ (fun _=>?_)
  ·intro y0 y1 y2
   unfold bH.l1
   repeat' first
   | (with_reducible first | exact ih0 _ _ _ | exact ih1 _ _ _ | exact aC.mono _ _ _ | exact bw.mono _ _ | exact aS.mono _ _ _ | exact LeO.refl _ | exact LeO.none _ | refine LeO.ite ?_ ?_ | refine LeO.bind ?_ (fun _=>?_))
   | exact ih0 _ _ _
   | exact ih1 _ _ _
   | exact aC.mono _ _ _
   | exact bw.mono _ _
   | exact aS.mono _ _ _
   | exact LeO.none _
   | refine LeO.ite ?_ ?_
   | refine LeO.bind ?_ (fun _=>?_)
theorem bH.mono:∀ a0 k,LeO (bH.f k a0) (bH.f (k+1) a0):=by
 intro a0 k
 obtain ⟨ih0,ih1⟩:=bH.bg k
 unfold bH.f
 repeat' first
  | (with_reducible first | exact ih0 _ _ _ | exact ih1 _ _ _ | exact aC.mono _ _ _ | exact bw.mono _ _ | exact aS.mono _ _ _ | exact LeO.refl _ | exact LeO.none _ | refine LeO.ite ?_ ?_ | refine LeO.bind ?_ (fun _=>?_))
  | exact ih0 _ _ _
  | exact ih1 _ _ _
  | exact aC.mono _ _ _
  | exact bw.mono _ _
  | exact aS.mono _ _ _
  | exact LeO.none _
  | refine LeO.ite ?_ ?_
  | refine LeO.bind ?_ (fun _=>?_)
mutual
def cE.j0:Nat→List Int→List Int→Option (List Int)
 | 0,_,_=>none
 | k+1,x0,x1=>if 0≤(wrap64 ((x0.length:Int)+1)) then (if (wrap64 ((x0.length:Int)+1):Int).toNat≤70368744177664 then (cE.l0 k x0 x1 (List.replicate (wrap64 ((x0.length:Int)+1):Int).toNat 0) 0 x0 (x0.length:Int) 0) else (none)) else (none)
def cE.l0:Nat→List Int→List Int→List Int→Int→List Int→Int→Int→Option (List Int)
 | 0,_,_,_,_,_,_,_=>none
 | k+1,x0,x1,x5,x6,x20,x21,x22=>if x22<x21 then (if 0≤x22 then (if x22<(x20.length:Int) then (if x22<(x1.length:Int) then (if x22<(x5.length:Int) then (cE.l0 k x0 x1 (x5.set (x22:Int).toNat ((IntKind.u64.wrap ((IntKind.u64.wrap (x6+(IntKind.u64.wrap (rd x20 x22))))+(IntKind.u64.wrap (rd x1 x22)))) % 4294967296)) ((IntKind.u64.wrap ((IntKind.u64.wrap (x6+(IntKind.u64.wrap (rd x20 x22))))+(IntKind.u64.wrap (rd x1 x22)))) / 4294967296) x20 x21 (wrap64 (x22+1))) else (none)) else (if x22<(x5.length:Int) then (cE.l0 k x0 x1 (x5.set (x22:Int).toNat ((IntKind.u64.wrap (x6+(IntKind.u64.wrap (rd x20 x22)))) % 4294967296)) ((IntKind.u64.wrap (x6+(IntKind.u64.wrap (rd x20 x22)))) / 4294967296) x20 x21 (wrap64 (x22+1))) else (none))) else (none)) else (none)) else (if 0≤(x0.length:Int) then (if (x0.length:Int)<(x5.length:Int) then ((aQ.f k (x5.set ((x0.length:Int):Int).toNat ((x6) % 4294967296))).bind fun t537=>(some t537)) else (none)) else (none))
end
def cE.f (k:Nat) (l0:List Int) (l1:List Int):Option (List Int):=if (l0.length:Int)<(l1.length:Int) then (cE.j0 k l1 l0) else (cE.j0 k l0 l1)
theorem cE.bg:∀ k,(∀ y0 y1,LeO (cE.j0 k y0 y1) (cE.j0 (k+1) y0 y1))∧(∀ y0 y1 y2 y3 y4 y5 y6,LeO (cE.l0 k y0 y1 y2 y3 y4 y5 y6) (cE.l0 (k+1) y0 y1 y2 y3 y4 y5 y6))
 | 0=>⟨fun _ _ r h=>by simp [cE.j0] at h,fun _ _ _ _ _ _ _ r h=>by simp [cE.l0] at h⟩
 | k+1=>by
  obtain ⟨ih0,ih1⟩:=cE.bg k
  refine ⟨?_,?_⟩
  ·intro y0 y1
   unfold cE.j0
   repeat' first
   | (with_reducible first | exact ih0 _ _ | exact ih1 _ _ _ _ _ _ _ | exact aQ.mono _ _ | exact LeO.refl _ | exact LeO.none _ | refine LeO.ite ?_ ?_ | refine LeO.bind ?_ (fun _=>?_))
   | exact ih0 _ _
   | exact ih1 _ _ _ _ _ _ _
   | exact aQ.mono _ _
   | exact LeO.none _
   | refine LeO.ite ?_ ?_
   | refine LeO.bind ?_ (fun _=>?_)
  ·intro y0 y1 y2 y3 y4 y5 y6
   unfold cE.l0
   repeat' first
   | (with_reducible first | exact ih0 _ _ | exact ih1 _ _ _ _ _ _ _ | exact aQ.mono _ _ | exact LeO.refl _ | exact LeO.none _ | refine LeO.ite ?_ ?_ | refine LeO.bind ?_ (fun _=>?_))
   | exact ih0 _ _
   | exact ih1 _ _ _ _ _ _ _
   | exact aQ.mono _ _
   | exact LeO.none _
   | refine LeO.ite ?_ ?_
   | refine LeO.bind ?_ (fun _=>?_)
theorem cE.mono:∀ a0 a1 k,LeO (cE.f k a0 a1) (cE.f (k+1) a0 a1):=by
 intro a0 a1 k
 obtain ⟨ih0,ih1⟩:=cE.bg k
 unfold cE.f
 repeat' first
  | (with_reducible first | exact ih0 _ _ | exact ih1 _ _ _ _ _ _ _ | exact aQ.mono _ _ | exact LeO.refl _ | exact LeO.none _ | refine LeO.ite ?_ ?_ | refine LeO.bind ?_ (fun _=>?_))
  | exact ih0 _ _
  | exact ih1 _ _ _ _ _ _ _
  | exact aQ.mono _ _
  | exact LeO.none _
  | refine LeO.ite ?_ ?_
  | refine LeO.bind ?_ (fun _=>?_)
def ai.l0:Nat→List Int→Int→Option (List Int)
 | 0,_,_=>none
 | k+1,x0,x3=>if x3>0 then (if 0≤(wrap64 (x3-1)) then (if (wrap64 (x3-1))<(x0.length:Int) then (if (rd x0 (wrap64 (x3-1)))=0 then (ai.l0 k x0 (wrap64 (x3-1))) else (if 0≤x3 then (if x3≤(x0.length:Int) then (some (x0.take (x3:Int).toNat)) else (none)) else (none))) else (none)) else (none)) else (if 0≤x3 then (if x3≤(x0.length:Int) then (some (x0.take (x3:Int).toNat)) else (none)) else (none))
def ai.f (k:Nat) (l0:List Int):Option (List Int):=ai.l0 k l0 (l0.length:Int)
theorem ai.bg:∀ k,(∀ y0 y1,LeO (ai.l0 k y0 y1) (ai.l0 (k+1) y0 y1))
 | 0=>fun _ _ r h=>by simp [ai.l0] at h
 | k+1=>by
  have ih0:=ai.bg k
  ·intro y0 y1
   unfold ai.l0
   repeat' first
   | (with_reducible first | exact ih0 _ _ | exact LeO.refl _ | exact LeO.none _ | refine LeO.ite ?_ ?_ | refine LeO.bind ?_ (fun _=>?_))
   | exact ih0 _ _
   | exact LeO.none _
   | refine LeO.ite ?_ ?_
   | refine LeO.bind ?_ (fun _=>?_)
theorem ai.mono:∀ a0 k,LeO (ai.f k a0) (ai.f (k+1) a0):=by
 intro a0 k
 have ih0:=ai.bg k
 unfold ai.f
 repeat' first
  | (with_reducible first | exact ih0 _ _ | exact LeO.refl _ | exact LeO.none _ | refine LeO.ite ?_ ?_ | refine LeO.bind ?_ (fun _=>?_))
  | exact ih0 _ _
  | exact LeO.none _
  | refine LeO.ite ?_ ?_
  | refine LeO.bind ?_ (fun _=>?_)
def aD.l0:Nat→List Int→Int→List Int→Int→Int→Option (List Int×Int)
 | 0,_,_,_,_,_=>none
 | k+1,x0,x1,x6,x7,x8=>if x8≥0 then (if 0≤x8 then (if x8<(x0.length:Int) then (if x1=0 then (none) else (if x8<(x6.length:Int) then (aD.l0 k x0 x1 (x6.set (x8:Int).toNat (wrap64 (Int.tdiv (wrap64 ((wrap64 (x7*10000))+(rd x0 x8))) x1))) (Int.tmod (wrap64 ((wrap64 (x7*10000))+(rd x0 x8))) x1) (wrap64 (x8-1))) else (none))) else (none)) else (none)) else ((ai.f k x6).bind fun t710=>(some (t710,x7)))
def aD.f (k:Nat) (l0:List Int) (a1:Int):Option (List Int×Int):=if 0≤(l0.length:Int) then (if ((l0.length:Int):Int).toNat≤35184372088832 then (aD.l0 k l0 a1 (List.replicate ((l0.length:Int):Int).toNat 0) 0 (wrap64 ((l0.length:Int)-1))) else (none)) else (none)
theorem aD.bg:∀ k,(∀ y0 y1 y2 y3 y4,LeO (aD.l0 k y0 y1 y2 y3 y4) (aD.l0 (k+1) y0 y1 y2 y3 y4))
 | 0=>fun _ _ _ _ _ r h=>by simp [aD.l0] at h
 | k+1=>by
  have ih0:=aD.bg k
  ·intro y0 y1 y2 y3 y4
   unfold aD.l0
   repeat' first
   | (with_reducible first | exact ih0 _ _ _ _ _ | exact ai.mono _ _ | exact LeO.refl _ | exact LeO.none _ | refine LeO.ite ?_ ?_ | refine LeO.bind ?_ (fun _=>?_))
   | exact ih0 _ _ _ _ _
   | exact ai.mono _ _
   | exact LeO.none _
   | refine LeO.ite ?_ ?_
   | refine LeO.bind ?_ (fun _=>?_)
theorem aD.mono:∀ a0 a1 k,LeO (aD.f k a0 a1) (aD.f (k+1) a0 a1):=by
 intro a0 a1 k
 have ih0:=aD.bg k
 unfold aD.f
 repeat' first
  | (with_reducible first | exact ih0 _ _ _ _ _ | exact ai.mono _ _ | exact LeO.refl _ | exact LeO.none _ | refine LeO.ite ?_ ?_ | refine LeO.bind ?_ (fun _=>?_))
  | exact ih0 _ _ _ _ _
  | exact ai.mono _ _
  | exact LeO.none _
  | refine LeO.ite ?_ ?_
  | refine LeO.bind ?_ (fun _=>?_)
mutual
def aI.l0:Nat→List Int→List Int→Option (List Int)
 | 0,_,_=>none
 | k+1,x0,x3=>if (x0.length:Int)>0 then ((aD.f k x0 65536).bind fun bt713=>(if x3.length<17592186044416 then (aI.l0 k bt713.1 (x3++[bt713.2])) else (none))) else (aI.l1 k x3 ([]:List Int) 0)
def aI.l1:Nat→List Int→List Int→Int→Option (List Int)
 | 0,_,_,_=>none
 | k+1,x3,x6,x7=>if x7<(x3.length:Int) then (if 0≤x7 then (if (wrap64 (x7+1))<(x3.length:Int) then (if 0≤(wrap64 (x7+1)) then (if x6.length<35184372088832 then (aI.l1 k x3 (x6++[(((rd x3 x7) % 4294967296)+((((rd x3 (wrap64 (x7+1))) % 4294967296)*65536) % 4294967296)) % 4294967296]) (wrap64 (x7+2))) else (none)) else (none)) else (if x6.length<35184372088832 then (aI.l1 k x3 (x6++[(rd x3 x7) % 4294967296]) (wrap64 (x7+2))) else (none))) else (none)) else (some x6)
end
def aI.f (k:Nat) (l0:List Int):Option (List Int):=aI.l0 k l0 ([]:List Int)
theorem aI.bg:∀ k,(∀ y0 y1,LeO (aI.l0 k y0 y1) (aI.l0 (k+1) y0 y1))∧(∀ y0 y1 y2,LeO (aI.l1 k y0 y1 y2) (aI.l1 (k+1) y0 y1 y2))
 | 0=>⟨fun _ _ r h=>by simp [aI.l0] at h,fun _ _ _ r h=>by simp [aI.l1] at h⟩
 | k+1=>by
  obtain ⟨ih0,ih1⟩:=aI.bg k
  refine ⟨?_,?_⟩
  ·intro y0 y1
   unfold aI.l0
   repeat' first
   | (with_reducible first | exact ih0 _ _ | exact ih1 _ _ _ | exact aD.mono _ _ _ | exact LeO.refl _ | exact LeO.none _ | refine LeO.ite ?_ ?_ | refine LeO.bind ?_ (fun _=>?_))
   | exact ih0 _ _
   | exact ih1 _ _ _
   | exact aD.mono _ _ _
   | exact LeO.none _
   | refine LeO.ite ?_ ?_
   | refine LeO.bind ?_ (fun _=>?_)
  ·intro y0 y1 y2
   unfold aI.l1
   repeat' first
   | (with_reducible first | exact ih0 _ _ | exact ih1 _ _ _ | exact aD.mono _ _ _ | exact LeO.refl _ | exact LeO.none _ | refine LeO.ite ?_ ?_ | refine LeO.bind ?_ (fun _=>?_))
   | exact ih0 _ _
   | exact ih1 _ _ _
   | exact aD.mono _ _ _
   | exact LeO.none _
   | refine LeO.ite ?_ ?_
   | refine LeO.bind ?_ (fun _=>?_)
theorem aI.mono:∀ a0 k,LeO (aI.f k a0) (aI.f (k+1) a0):=by
 intro a0 k
 obtain ⟨ih0,ih1⟩:=aI.bg k
 unfold aI.f
 repeat' first
  | (with_reducible first | exact ih0 _ _ | exact ih1 _ _ _ | exact aD.mono _ _ _ | exact LeO.refl _ | exact LeO.none _ | refine LeO.ite ?_ ?_ | refine LeO.bind ?_ (fun _=>?_))
  | exact ih0 _ _
  | exact ih1 _ _ _
  | exact aD.mono _ _ _
  | exact LeO.none _
  | refine LeO.ite ?_ ?_
  | refine LeO.bind ?_ (fun _=>?_)
mutual
def ah.l0:Nat→Int→Int→List Int→List Int→Int→Int→Option (List Int)
 | 0,_,_,_,_,_,_=>none
 | k+1,x1,x2,x7,x14,x15,x16=>if x16<x15 then (if 0≤x16 then (if x16<(x14.length:Int) then (if x7.length<17592186044416 then (ah.l0 k x1 (wrap64 (Int.tdiv (wrap64 (x2+(wrap64 ((rd x14 x16)*x1)))) 10000)) (x7++[Int.tmod (wrap64 (x2+(wrap64 ((rd x14 x16)*x1)))) 10000]) x14 x15 (wrap64 (x16+1))) else (none)) else (none)) else (none)) else (ah.l1 k x2 x7)
def ah.l1:Nat→Int→List Int→Option (List Int)
 | 0,_,_=>none
 | k+1,x2,x7=>if x2>0 then (if x7.length<17592186044416 then (ah.l1 k (wrap64 (Int.tdiv x2 10000)) (x7++[Int.tmod x2 10000])) else (none)) else ((ai.f k x7).bind fun t746=>(some t746))
end
def ah.f (k:Nat) (l0:List Int) (a1:Int) (a2:Int):Option (List Int):=if 0≤(wrap64 ((l0.length:Int)+2)) then (if (wrap64 ((l0.length:Int)+2):Int).toNat≤35184372088832 then (ah.l0 k a1 a2 (([]:List Int)) l0 (l0.length:Int) 0) else (none)) else (none)
theorem ah.bg:∀ k,(∀ y0 y1 y2 y3 y4 y5,LeO (ah.l0 k y0 y1 y2 y3 y4 y5) (ah.l0 (k+1) y0 y1 y2 y3 y4 y5))∧(∀ y0 y1,LeO (ah.l1 k y0 y1) (ah.l1 (k+1) y0 y1))
 | 0=>⟨fun _ _ _ _ _ _ r h=>by simp [ah.l0] at h,fun _ _ r h=>by simp [ah.l1] at h⟩
 | k+1=>by
  obtain ⟨ih0,ih1⟩:=ah.bg k
  refine ⟨?_,?_⟩
  ·intro y0 y1 y2 y3 y4 y5
   unfold ah.l0
   repeat' first
   | (with_reducible first | exact ih0 _ _ _ _ _ _ | exact ih1 _ _ | exact ai.mono _ _ | exact LeO.refl _ | exact LeO.none _ | refine LeO.ite ?_ ?_ | refine LeO.bind ?_ (fun _=>?_))
   | exact ih0 _ _ _ _ _ _
   | exact ih1 _ _
   | exact ai.mono _ _
   | exact LeO.none _
   | refine LeO.ite ?_ ?_
   | refine LeO.bind ?_ (fun _=>?_)
  ·intro y0 y1
   unfold ah.l1
   repeat' first
   | (with_reducible first | exact ih0 _ _ _ _ _ _ | exact ih1 _ _ | exact ai.mono _ _ | exact LeO.refl _ | exact LeO.none _ | refine LeO.ite ?_ ?_ | refine LeO.bind ?_ (fun _=>?_))
   | exact ih0 _ _ _ _ _ _
   | exact ih1 _ _
   | exact ai.mono _ _
   | exact LeO.none _
   | refine LeO.ite ?_ ?_
   | refine LeO.bind ?_ (fun _=>?_)
theorem ah.mono:∀ a0 a1 a2 k,LeO (ah.f k a0 a1 a2) (ah.f (k+1) a0 a1 a2):=by
 intro a0 a1 a2 k
 obtain ⟨ih0,ih1⟩:=ah.bg k
 unfold ah.f
 repeat' first
  | (with_reducible first | exact ih0 _ _ _ _ _ _ | exact ih1 _ _ | exact ai.mono _ _ | exact LeO.refl _ | exact LeO.none _ | refine LeO.ite ?_ ?_ | refine LeO.bind ?_ (fun _=>?_))
  | exact ih0 _ _ _ _ _ _
  | exact ih1 _ _
  | exact ai.mono _ _
  | exact LeO.none _
  | refine LeO.ite ?_ ?_
  | refine LeO.bind ?_ (fun _=>?_)
def bJ.l0:Nat→List Int→List Int→Int→Option (List Int)
 | 0,_,_,_=>none
 | k+1,x0,x3,x4=>if x4≥0 then (if 0≤x4 then (if x4<(x0.length:Int) then ((ah.f k x3 65536 (wrap64 ((rd x0 x4) / 65536))).bind fun t753=>((ah.f k t753 65536 (wrap64 (Go.bits .and .u32 (rd x0 x4) 65535))).bind fun t757=>(bJ.l0 k x0 t757 (wrap64 (x4-1))))) else (none)) else (none)) else (some x3)
def an.l0:Nat→List Int→List Int→Int→Option (Int)
 | 0,_,_,_=>none
 | k+1,x0,x1,x5=>if x5≥0 then (if 0≤x5 then (if x5<(x0.length:Int) then (if x5<(x1.length:Int) then (if (rd x0 x5)=(rd x1 x5) then (an.l0 k x0 x1 (wrap64 (x5-1))) else (if (rd x0 x5)<(rd x1 x5) then (some (-1)) else (some 1))) else (none)) else (none)) else (none)) else (some 0)
def an.f (k:Nat) (l0:List Int) (l1:List Int):Option (Int):=if (l0.length:Int)=(l1.length:Int) then (an.l0 k l0 l1 (wrap64 ((l0.length:Int)-1))) else (if (l0.length:Int)<(l1.length:Int) then (some (-1)) else (some 1))
theorem an.bg:∀ k,(∀ y0 y1 y2,LeO (an.l0 k y0 y1 y2) (an.l0 (k+1) y0 y1 y2))
 | 0=>fun _ _ _ r h=>by simp [an.l0] at h
 | k+1=>by
  have ih0:=an.bg k
  ·intro y0 y1 y2
   unfold an.l0
   repeat' first
   | (with_reducible first | exact ih0 _ _ _ | exact LeO.refl _ | exact LeO.none _ | refine LeO.ite ?_ ?_ | refine LeO.bind ?_ (fun _=>?_))
   | exact ih0 _ _ _
   | exact LeO.none _
   | refine LeO.ite ?_ ?_
   | refine LeO.bind ?_ (fun _=>?_)
theorem an.mono:∀ a0 a1 k,LeO (an.f k a0 a1) (an.f (k+1) a0 a1):=by
 intro a0 a1 k
 have ih0:=an.bg k
 unfold an.f
 repeat' first
  | (with_reducible first | exact ih0 _ _ _ | exact LeO.refl _ | exact LeO.none _ | refine LeO.ite ?_ ?_ | refine LeO.bind ?_ (fun _=>?_))
  | exact ih0 _ _ _
  | exact LeO.none _
  | refine LeO.ite ?_ ?_
  | refine LeO.bind ?_ (fun _=>?_)
def bB.f (l0:List Int):Option (Bool):=if (l0.length:Int)≤4096 then (if (l0.length:Int)=0 then (some true) else (if 0≤(wrap64 ((l0.length:Int)-1)) then (if (wrap64 ((l0.length:Int)-1))<(l0.length:Int) then (some ((rd l0 (wrap64 ((l0.length:Int)-1))) != 0)) else (none)) else (none))) else (some false)
def az.l0:Nat→Int→List Int→Option (List Int)
 | 0,_,_=>none
 | k+1,x0,x3=>if x0>0 then (if x3.length<17592186044416 then (az.l0 k (wrap64 (Int.tdiv x0 10000)) (x3++[Int.tmod x0 10000])) else (none)) else (some x3)
def az.f (k:Nat) (a0:Int):Option (List Int):=az.l0 k a0 (([]:List Int))
theorem az.bg:∀ k,(∀ y0 y1,LeO (az.l0 k y0 y1) (az.l0 (k+1) y0 y1))
 | 0=>fun _ _ r h=>by simp [az.l0] at h
 | k+1=>by
  have ih0:=az.bg k
  ·intro y0 y1
   unfold az.l0
   repeat' first
   | (with_reducible first | exact ih0 _ _ | exact LeO.refl _ | exact LeO.none _ | refine LeO.ite ?_ ?_ | refine LeO.bind ?_ (fun _=>?_))
   | exact ih0 _ _
   | exact LeO.none _
   | refine LeO.ite ?_ ?_
   | refine LeO.bind ?_ (fun _=>?_)
theorem az.mono:∀ a0 k,LeO (az.f k a0) (az.f (k+1) a0):=by
 intro a0 k
 have ih0:=az.bg k
 unfold az.f
 repeat' first
  | (with_reducible first | exact ih0 _ _ | exact LeO.refl _ | exact LeO.none _ | refine LeO.ite ?_ ?_ | refine LeO.bind ?_ (fun _=>?_))
  | exact ih0 _ _
  | exact LeO.none _
  | refine LeO.ite ?_ ?_
  | refine LeO.bind ?_ (fun _=>?_)
def cw.f (l0:List Int):Option (List Int):=(some (([]:List Int):List Int)).bind fun y780=>(if y780.length+l0.length<17592186044416 then (some (y780++l0)) else (none))
def aG.l0:Nat→List Int→List Int→Int→Int→Int→Option (List Int)
 | 0,_,_,_,_,_=>none
 | k+1,x1,x5,x6,x12,x13=>if x13<x12 then (if 0≤x13 then (if x13<(x5.length:Int) then (if x13<(x1.length:Int) then (if (wrap64 ((wrap64 ((rd x5 x13)-x6))-(rd x1 x13)))<0 then (aG.l0 k x1 (x5.set (x13:Int).toNat (wrap64 ((wrap64 ((wrap64 ((rd x5 x13)-x6))-(rd x1 x13)))+10000))) 1 x12 (wrap64 (x13+1))) else (aG.l0 k x1 (x5.set (x13:Int).toNat (wrap64 ((wrap64 ((rd x5 x13)-x6))-(rd x1 x13)))) 0 x12 (wrap64 (x13+1)))) else (if (wrap64 ((rd x5 x13)-x6))<0 then (aG.l0 k x1 (x5.set (x13:Int).toNat (wrap64 ((wrap64 ((rd x5 x13)-x6))+10000))) 1 x12 (wrap64 (x13+1))) else (aG.l0 k x1 (x5.set (x13:Int).toNat (wrap64 ((rd x5 x13)-x6))) 0 x12 (wrap64 (x13+1))))) else (none)) else (none)) else ((ai.f k x5).bind fun t789=>(some t789))
def aG.f (k:Nat) (l0:List Int) (l1:List Int):Option (List Int):=(cw.f l0).bind fun t786=>(aG.l0 k l1 t786 0 (t786.length:Int) 0)
theorem aG.bg:∀ k,(∀ y0 y1 y2 y3 y4,LeO (aG.l0 k y0 y1 y2 y3 y4) (aG.l0 (k+1) y0 y1 y2 y3 y4))
 | 0=>fun _ _ _ _ _ r h=>by simp [aG.l0] at h
 | k+1=>by
  have ih0:=aG.bg k
  ·intro y0 y1 y2 y3 y4
   unfold aG.l0
   repeat' first
   | (with_reducible first | exact ih0 _ _ _ _ _ | exact ai.mono _ _ | exact LeO.refl _ | exact LeO.none _ | refine LeO.ite ?_ ?_ | refine LeO.bind ?_ (fun _=>?_))
   | exact ih0 _ _ _ _ _
   | exact ai.mono _ _
   | exact LeO.none _
   | refine LeO.ite ?_ ?_
   | refine LeO.bind ?_ (fun _=>?_)
theorem aG.mono:∀ a0 a1 k,LeO (aG.f k a0 a1) (aG.f (k+1) a0 a1):=by
 intro a0 a1 k
 have ih0:=aG.bg k
 unfold aG.f
 repeat' first
  | (with_reducible first | exact ih0 _ _ _ _ _ | exact ai.mono _ _ | exact LeO.refl _ | exact LeO.none _ | refine LeO.ite ?_ ?_ | refine LeO.bind ?_ (fun _=>?_))
  | exact ih0 _ _ _ _ _
  | exact ai.mono _ _
  | exact LeO.none _
  | refine LeO.ite ?_ ?_
  | refine LeO.bind ?_ (fun _=>?_)
def au.l0:Nat→List Int→Int→Int→Option (Int×Bool)
 | 0,_,_,_=>none
 | k+1,x0,x4,x5=>if x5≥0 then (if 0≤x5 then (if x5<(x0.length:Int) then (au.l0 k x0 (wrap64 ((wrap64 (x4*10000))+(rd x0 x5))) (wrap64 (x5-1))) else (none)) else (none)) else (some (x4,true))
def au.f (k:Nat) (l0:List Int):Option (Int×Bool):=if (l0.length:Int)>4 then (some (0,false)) else (au.l0 k l0 0 (wrap64 ((l0.length:Int)-1)))
theorem au.bg:∀ k,(∀ y0 y1 y2,LeO (au.l0 k y0 y1 y2) (au.l0 (k+1) y0 y1 y2))
 | 0=>fun _ _ _ r h=>by simp [au.l0] at h
 | k+1=>by
  have ih0:=au.bg k
  ·intro y0 y1 y2
   unfold au.l0
   repeat' first
   | (with_reducible first | exact ih0 _ _ _ | exact LeO.refl _ | exact LeO.none _ | refine LeO.ite ?_ ?_ | refine LeO.bind ?_ (fun _=>?_))
   | exact ih0 _ _ _
   | exact LeO.none _
   | refine LeO.ite ?_ ?_
   | refine LeO.bind ?_ (fun _=>?_)
theorem au.mono:∀ a0 k,LeO (au.f k a0) (au.f (k+1) a0):=by
 intro a0 k
 have ih0:=au.bg k
 unfold au.f
 repeat' first
  | (with_reducible first | exact ih0 _ _ _ | exact LeO.refl _ | exact LeO.none _ | refine LeO.ite ?_ ?_ | refine LeO.bind ?_ (fun _=>?_))
  | exact ih0 _ _ _
  | exact LeO.none _
  | refine LeO.ite ?_ ?_
  | refine LeO.bind ?_ (fun _=>?_)
mutual
def af.l0:Nat→List Int→List Int→Int→Int→Int→Int→Option (Int)
 | 0,_,_,_,_,_,_=>none
 | k+1,x0,x1,x5,x6,x7,x8=>if x8≥(mx 0 (wrap64 (x5-2))) then (if x8<(x0.length:Int) then (if 0≤x8 then (af.l0 k x0 x1 x5 (wrap64 ((wrap64 (x6*10000))+(rd x0 x8))) x7 (wrap64 (x8-1))) else (none)) else (af.l0 k x0 x1 x5 (wrap64 (x6*10000)) x7 (wrap64 (x8-1)))) else (af.l1 k x0 x1 x5 x6 x7 (wrap64 (x5-1)))
def af.l1:Nat→List Int→List Int→Int→Int→Int→Int→Option (Int)
 | 0,_,_,_,_,_,_=>none
 | k+1,x0,x1,x5,x6,x7,x9=>if x9≥(mx 0 (wrap64 (x5-2))) then (if 0≤x9 then (if x9<(x1.length:Int) then (af.l1 k x0 x1 x5 x6 (wrap64 ((wrap64 (x7*10000))+(rd x1 x9))) (wrap64 (x9-1))) else (none)) else (none)) else (if x5=1 then (if 0<(x1.length:Int) then (af.j2 k x0 x1 x6 (rd x1 0)) else (none)) else (af.j2 k x0 x1 x6 x7))
def af.j2:Nat→List Int→List Int→Int→Int→Option (Int)
 | 0,_,_,_,_=>none
 | k+1,x0,x1,x6,x7=>if x7=0 then (none) else (af.l2 k x0 x1 (mn (wrap64 (Int.tdiv x6 x7)) 9999))
def af.l2:Nat→List Int→List Int→Int→Option (Int)
 | 0,_,_,_=>none
 | k+1,x0,x1,x10=>(ah.f k x1 x10 0).bind fun t802=>((an.f k t802 x0).bind fun t805=>(if t805>0 then (af.l2 k x0 x1 (wrap64 (x10-1))) else (af.l3 k x0 x1 x10)))
def af.l3:Nat→List Int→List Int→Int→Option (Int)
 | 0,_,_,_=>none
 | k+1,x0,x1,x10=>if (wrap64 (x10+1))<10000 then ((ah.f k x1 (wrap64 (x10+1)) 0).bind fun t806=>((an.f k t806 x0).bind fun t809=>(if t809≤0 then (af.l3 k x0 x1 (wrap64 (x10+1))) else (some x10)))) else (some x10)
end
def af.f (k:Nat) (l0:List Int) (l1:List Int):Option (Int):=af.l0 k l0 l1 (l1.length:Int) 0 0 (l1.length:Int)
theorem af.bg:∀ k,(∀ y0 y1 y2 y3 y4 y5,LeO (af.l0 k y0 y1 y2 y3 y4 y5) (af.l0 (k+1) y0 y1 y2 y3 y4 y5))∧(∀ y0 y1 y2 y3 y4 y5,LeO (af.l1 k y0 y1 y2 y3 y4 y5) (af.l1 (k+1) y0 y1 y2 y3 y4 y5))∧(∀ y0 y1 y2 y3,LeO (af.j2 k y0 y1 y2 y3) (af.j2 (k+1) y0 y1 y2 y3))∧(∀ y0 y1 y2,LeO (af.l2 k y0 y1 y2) (af.l2 (k+1) y0 y1 y2))∧(∀ y0 y1 y2,LeO (af.l3 k y0 y1 y2) (af.l3 (k+1) y0 y1 y2))
 | 0=>⟨fun _ _ _ _ _ _ r h=>by simp [af.l0] at h,fun _ _ _ _ _ _ r h=>by simp [af.l1] at h,fun _ _ _ _ r h=>by simp [af.j2] at h,fun _ _ _ r h=>by simp [af.l2] at h,fun _ _ _ r h=>by simp [af.l3] at h⟩
 | k+1=>by
  obtain ⟨ih0,ih1,ih2,ih3,ih4⟩:=af.bg k
  refine ⟨?_,?_,?_,?_,?_⟩
  ·intro y0 y1 y2 y3 y4 y5
   unfold af.l0
   repeat' first
   | (with_reducible first | exact ih0 _ _ _ _ _ _ | exact ih1 _ _ _ _ _ _ | exact ih2 _ _ _ _ | exact ih3 _ _ _ | exact ih4 _ _ _ | exact an.mono _ _ _ | exact ah.mono _ _ _ _ | exact LeO.refl _ | exact LeO.none _ | refine LeO.ite ?_ ?_ | refine LeO.bind ?_ (fun _=>?_))
   | exact ih0 _ _ _ _ _ _
   | exact ih1 _ _ _ _ _ _
   | exact ih2 _ _ _ _
   | exact ih3 _ _ _
   | exact ih4 _ _ _
   | exact an.mono _ _ _
   | exact ah.mono _ _ _ _
   | exact LeO.none _
   | refine LeO.ite ?_ ?_
   | refine LeO.bind ?_ (fun _=>?_)
  ·intro y0 y1 y2 y3 y4 y5
   unfold af.l1
   repeat' first
   | (with_reducible first | exact ih0 _ _ _ _ _ _ | exact ih1 _ _ _ _ _ _ | exact ih2 _ _ _ _ | exact ih3 _ _ _ | exact ih4 _ _ _ | exact an.mono _ _ _ | exact ah.mono _ _ _ _ | exact LeO.refl _ | exact LeO.none _ | refine LeO.ite ?_ ?_ | refine LeO.bind ?_ (fun _=>?_))
   | exact ih0 _ _ _ _ _ _
   | exact ih1 _ _ _ _ _ _
   | exact ih2 _ _ _ _
   | exact ih3 _ _ _
   | exact ih4 _ _ _
   | exact an.mono _ _ _
   | exact ah.mono _ _ _ _
   | exact LeO.none _
   | refine LeO.ite ?_ ?_
   | refine LeO.bind ?_ (fun _=>?_)
  ·intro y0 y1 y2 y3
   unfold af.j2
   repeat' first
   | (with_reducible first | exact ih0 _ _ _ _ _ _ | exact ih1 _ _ _ _ _ _ | exact ih2 _ _ _ _ | exact ih3 _ _ _ | exact ih4 _ _ _ | exact an.mono _ _ _ | exact ah.mono _ _ _ _ | exact LeO.refl _ | exact LeO.none _ | refine LeO.ite ?_ ?_ | refine LeO.bind ?_ (fun _=>?_))
   | exact ih0 _ _ _ _ _ _
   | exact ih1 _ _ _ _ _ _
   | exact ih2 _ _ _ _
   | exact ih3 _ _ _
   | exact ih4 _ _ _
   | exact an.mono _ _ _
   | exact ah.mono _ _ _ _
   | exact LeO.none _
   | refine LeO.ite ?_ ?_
   | refine LeO.bind ?_ (fun _=>?_)
  ·intro y0 y1 y2
   unfold af.l2
   repeat' first
   | (with_reducible first | exact ih0 _ _ _ _ _ _ | exact ih1 _ _ _ _ _ _ | exact ih2 _ _ _ _ | exact ih3 _ _ _ | exact ih4 _ _ _ | exact an.mono _ _ _ | exact ah.mono _ _ _ _ | exact LeO.refl _ | exact LeO.none _ | refine LeO.ite ?_ ?_ | refine LeO.bind ?_ (fun _=>?_))
   | exact ih0 _ _ _ _ _ _
   | exact ih1 _ _ _ _ _ _
   | exact ih2 _ _ _ _
   | exact ih3 _ _ _
   | exact ih4 _ _ _
   | exact an.mono _ _ _
   | exact ah.mono _ _ _ _
   | exact LeO.none _
   | refine LeO.ite ?_ ?_
   | refine LeO.bind ?_ (fun _=>?_)
  ·intro y0 y1 y2
   unfold af.l3
   repeat' first
   | (with_reducible first | exact ih0 _ _ _ _ _ _ | exact ih1 _ _ _ _ _ _ | exact ih2 _ _ _ _ | exact ih3 _ _ _ | exact ih4 _ _ _ | exact an.mono _ _ _ | exact ah.mono _ _ _ _ | exact LeO.refl _ | exact LeO.none _ | refine LeO.ite ?_ ?_ | refine LeO.bind ?_ (fun _=>?_))
   | exact ih0 _ _ _ _ _ _
   | exact ih1 _ _ _ _ _ _
   | exact ih2 _ _ _ _
   | exact ih3 _ _ _
   | exact ih4 _ _ _
   | exact an.mono _ _ _
   | exact ah.mono _ _ _ _
   | exact LeO.none _
   | refine LeO.ite ?_ ?_
   | refine LeO.bind ?_ (fun _=>?_)
theorem af.mono:∀ a0 a1 k,LeO (af.f k a0 a1) (af.f (k+1) a0 a1):=by
 intro a0 a1 k
 obtain ⟨ih0,ih1,ih2,ih3,ih4⟩:=af.bg k
 unfold af.f
 repeat' first
  | (with_reducible first | exact ih0 _ _ _ _ _ _ | exact ih1 _ _ _ _ _ _ | exact ih2 _ _ _ _ | exact ih3 _ _ _ | exact ih4 _ _ _ | exact an.mono _ _ _ | exact ah.mono _ _ _ _ | exact LeO.refl _ | exact LeO.none _ | refine LeO.ite ?_ ?_ | refine LeO.bind ?_ (fun _=>?_))
  | exact ih0 _ _ _ _ _ _
  | exact ih1 _ _ _ _ _ _
  | exact ih2 _ _ _ _
  | exact ih3 _ _ _
  | exact ih4 _ _ _
  | exact an.mono _ _ _
  | exact ah.mono _ _ _ _
  | exact LeO.none _
  | refine LeO.ite ?_ ?_
  | refine LeO.bind ?_ (fun _=>?_)
def ay.l0:Nat→List Int→List Int→List Int→List Int→Int→Option (List Int×List Int)
 | 0,_,_,_,_,_=>none
 | k+1,x0,x1,x12,x13,x14=>if x14≥0 then (if 0≤x14 then (if x14<(x0.length:Int) then ((ah.f k x13 10000 (rd x0 x14)).bind fun t842=>((an.f k t842 x1).bind fun t845=>(if t845<0 then (ay.l0 k x0 x1 x12 t842 (wrap64 (x14-1))) else ((af.f k t842 x1).bind fun t846=>(if x14<(x12.length:Int) then ((some (x12.set (x14:Int).toNat t846:List Int)).bind fun y847=>((ah.f k x1 (rd y847 x14) 0).bind fun t849=>((aG.f k t842 t849).bind fun t852=>(ay.l0 k x0 x1 y847 t852 (wrap64 (x14-1)))))) else (none)))))) else (none)) else (none)) else ((ai.f k x12).bind fun t838=>(some (t838,x13)))
def ay.f (k:Nat) (l0:List Int) (l1:List Int):Option (List Int×List Int):=(an.f k l0 l1).bind fun t810=>(if t810<0 then (some ((([]:List Int)),l0)) else ((au.f k l0).bind fun bt814=>(if bt814.2=true then ((au.f k l1).bind fun bt816=>(if bt816.1=0 then (none) else ((az.f k (wrap64 (Int.tdiv bt814.1 bt816.1))).bind fun t818=>((az.f k (Int.tmod bt814.1 bt816.1)).bind fun t821=>(some (t818,t821)))))) else (if (l1.length:Int)=1 then (if 0<(l1.length:Int) then ((aD.f k l0 (rd l1 0)).bind fun bt825=>((az.f k bt825.2).bind fun t829=>(some (bt825.1,t829)))) else (none)) else (if 0≤(l0.length:Int) then (if ((l0.length:Int):Int).toNat≤35184372088832 then (ay.l0 k l0 l1 (List.replicate ((l0.length:Int):Int).toNat 0) (([]:List Int)) (wrap64 ((l0.length:Int)-1))) else (none)) else (none))))))
theorem ay.bg:∀ k,(∀ y0 y1 y2 y3 y4,LeO (ay.l0 k y0 y1 y2 y3 y4) (ay.l0 (k+1) y0 y1 y2 y3 y4))
 | 0=>fun _ _ _ _ _ r h=>by simp [ay.l0] at h
 | k+1=>by
  have ih0:=ay.bg k
  ·intro y0 y1 y2 y3 y4
   unfold ay.l0
   repeat' first
   | (with_reducible first | exact ih0 _ _ _ _ _ | exact an.mono _ _ _ | exact az.mono _ _ | exact ah.mono _ _ _ _ | exact aD.mono _ _ _ | exact aG.mono _ _ _ | exact af.mono _ _ _ | exact au.mono _ _ | exact ai.mono _ _ | exact LeO.refl _ | exact LeO.none _ | refine LeO.ite ?_ ?_ | refine LeO.bind ?_ (fun _=>?_))
   | exact ih0 _ _ _ _ _
   | exact an.mono _ _ _
   | exact az.mono _ _
   | exact ah.mono _ _ _ _
   | exact aD.mono _ _ _
   | exact aG.mono _ _ _
   | exact af.mono _ _ _
   | exact au.mono _ _
   | exact ai.mono _ _
   | exact LeO.none _
   | refine LeO.ite ?_ ?_
   | refine LeO.bind ?_ (fun _=>?_)
theorem ay.mono:∀ a0 a1 k,LeO (ay.f k a0 a1) (ay.f (k+1) a0 a1):=by
 intro a0 a1 k
 have ih0:=ay.bg k
 unfold ay.f
 repeat' first
  | (with_reducible first | exact ih0 _ _ _ _ _ | exact an.mono _ _ _ | exact az.mono _ _ | exact ah.mono _ _ _ _ | exact aD.mono _ _ _ | exact aG.mono _ _ _ | exact af.mono _ _ _ | exact au.mono _ _ | exact ai.mono _ _ | exact LeO.refl _ | exact LeO.none _ | refine LeO.ite ?_ ?_ | refine LeO.bind ?_ (fun _=>?_))
  | exact ih0 _ _ _ _ _
  | exact an.mono _ _ _
  | exact az.mono _ _
  | exact ah.mono _ _ _ _
  | exact aD.mono _ _ _
  | exact aG.mono _ _ _
  | exact af.mono _ _ _
  | exact au.mono _ _
  | exact ai.mono _ _
  | exact LeO.none _
  | refine LeO.ite ?_ ?_
  | refine LeO.bind ?_ (fun _=>?_)
mutual
def ak.l0:Nat→List Int→List Int→Option (List Int)
 | 0,_,_=>none
 | k+1,x0,x1=>if (x1.length:Int)>0 then ((au.f k x0).bind fun bt855=>((au.f k x1).bind fun bt857=>(if bt855.2=true then (ak.j1 k x0 x1 bt855.1 bt857.1 bt857.2) else (ak.j1 k x0 x1 bt855.1 bt857.1 false)))) else (some x0)
def ak.j1:Nat→List Int→List Int→Int→Int→Bool→Option (List Int)
 | 0,_,_,_,_,_=>none
 | k+1,x0,x1,x5,x7,x27=>if x27=true then (ak.l1 k x5 x7) else ((ay.f k x0 x1).bind fun bt862=>(ak.l0 k x1 bt862.2))
def ak.l1:Nat→Int→Int→Option (List Int)
 | 0,_,_=>none
 | k+1,x5,x7=>if x7>0 then (if x7=0 then (none) else (ak.l1 k x7 (Int.tmod x5 x7))) else ((az.f k x5).bind fun t859=>(some t859))
end
def ak.f (k:Nat) (l0:List Int) (l1:List Int):Option (List Int):=ak.l0 k l0 l1
theorem ak.bg:∀ k,(∀ y0 y1,LeO (ak.l0 k y0 y1) (ak.l0 (k+1) y0 y1))∧(∀ y0 y1 y2 y3 y4,LeO (ak.j1 k y0 y1 y2 y3 y4) (ak.j1 (k+1) y0 y1 y2 y3 y4))∧(∀ y0 y1,LeO (ak.l1 k y0 y1) (ak.l1 (k+1) y0 y1))
 | 0=>⟨fun _ _ r h=>by simp [ak.l0] at h,fun _ _ _ _ _ r h=>by simp [ak.j1] at h,fun _ _ r h=>by simp [ak.l1] at h⟩
 | k+1=>by
  obtain ⟨ih0,ih1,ih2⟩:=ak.bg k
  refine ⟨?_,?_,?_⟩
  ·intro y0 y1
   unfold ak.l0
   repeat' first
   | (with_reducible first | exact ih0 _ _ | exact ih1 _ _ _ _ _ | exact ih2 _ _ | exact ay.mono _ _ _ | exact az.mono _ _ | exact au.mono _ _ | exact LeO.refl _ | exact LeO.none _ | refine LeO.ite ?_ ?_ | refine LeO.bind ?_ (fun _=>?_))
   | exact ih0 _ _
   | exact ih1 _ _ _ _ _
   | exact ih2 _ _
   | exact ay.mono _ _ _
   | exact az.mono _ _
   | exact au.mono _ _
   | exact LeO.none _
   | refine LeO.ite ?_ ?_
   | refine LeO.bind ?_ (fun _=>?_)
  ·intro y0 y1 y2 y3 y4
   unfold ak.j1
   repeat' first
   | (with_reducible first | exact ih0 _ _ | exact ih1 _ _ _ _ _ | exact ih2 _ _ | exact ay.mono _ _ _ | exact az.mono _ _ | exact au.mono _ _ | exact LeO.refl _ | exact LeO.none _ | refine LeO.ite ?_ ?_ | refine LeO.bind ?_ (fun _=>?_))
   | exact ih0 _ _
   | exact ih1 _ _ _ _ _
   | exact ih2 _ _
   | exact ay.mono _ _ _
   | exact az.mono _ _
   | exact au.mono _ _
   | exact LeO.none _
   | refine LeO.ite ?_ ?_
   | refine LeO.bind ?_ (fun _=>?_)
  ·intro y0 y1
   unfold ak.l1
   repeat' first
   | (with_reducible first | exact ih0 _ _ | exact ih1 _ _ _ _ _ | exact ih2 _ _ | exact ay.mono _ _ _ | exact az.mono _ _ | exact au.mono _ _ | exact LeO.refl _ | exact LeO.none _ | refine LeO.ite ?_ ?_ | refine LeO.bind ?_ (fun _=>?_))
   | exact ih0 _ _
   | exact ih1 _ _ _ _ _
   | exact ih2 _ _
   | exact ay.mono _ _ _
   | exact az.mono _ _
   | exact au.mono _ _
   | exact LeO.none _
   | refine LeO.ite ?_ ?_
   | refine LeO.bind ?_ (fun _=>?_)
theorem ak.mono:∀ a0 a1 k,LeO (ak.f k a0 a1) (ak.f (k+1) a0 a1):=by
 intro a0 a1 k
 obtain ⟨ih0,ih1,ih2⟩:=ak.bg k
 unfold ak.f
 repeat' first
  | (with_reducible first | exact ih0 _ _ | exact ih1 _ _ _ _ _ | exact ih2 _ _ | exact ay.mono _ _ _ | exact az.mono _ _ | exact au.mono _ _ | exact LeO.refl _ | exact LeO.none _ | refine LeO.ite ?_ ?_ | refine LeO.bind ?_ (fun _=>?_))
  | exact ih0 _ _
  | exact ih1 _ _ _ _ _
  | exact ih2 _ _
  | exact ay.mono _ _ _
  | exact az.mono _ _
  | exact au.mono _ _
  | exact LeO.none _
  | refine LeO.ite ?_ ?_
  | refine LeO.bind ?_ (fun _=>?_)
mutual
def aw.l0:Nat→List Int→List Int→Int→Option (ByteArray)
 | 0,_,_,_=>none
 | k+1,x0,x3,x4=>if x4≥0 then (aw.l1 k x0 x3 x4 1000) else (some (strOfNums x3))
def aw.l1:Nat→List Int→List Int→Int→Int→Option (ByteArray)
 | 0,_,_,_,_=>none
 | k+1,x0,x3,x4,x5=>if x5>0 then (if 0≤x4 then (if x4<(x0.length:Int) then (if x5=0 then (none) else (if (x3.length:Int)>0 then (if x3.length<140737488355328 then (aw.l1 k x0 (x3++[(wrap64 (48+(Int.tmod (wrap64 (Int.tdiv (rd x0 x4) x5)) 10))) % 256]) x4 (wrap64 (Int.tdiv x5 10))) else (none)) else (if (Int.tmod (wrap64 (Int.tdiv (rd x0 x4) x5)) 10)>0 then (if x3.length<140737488355328 then (aw.l1 k x0 (x3++[(wrap64 (48+(Int.tmod (wrap64 (Int.tdiv (rd x0 x4) x5)) 10))) % 256]) x4 (wrap64 (Int.tdiv x5 10))) else (none)) else (aw.l1 k x0 x3 x4 (wrap64 (Int.tdiv x5 10)))))) else (none)) else (none)) else (aw.l0 k x0 x3 (wrap64 (x4-1)))
end
def aw.f (k:Nat) (l0:List Int):Option (ByteArray):=if (l0.length:Int)=0 then (some (⟨#[48]⟩:ByteArray)) else (aw.l0 k l0 ([]:List Int) (wrap64 ((l0.length:Int)-1)))
theorem aw.bg:∀ k,(∀ y0 y1 y2,LeO (aw.l0 k y0 y1 y2) (aw.l0 (k+1) y0 y1 y2))∧(∀ y0 y1 y2 y3,LeO (aw.l1 k y0 y1 y2 y3) (aw.l1 (k+1) y0 y1 y2 y3))
 | 0=>⟨fun _ _ _ r h=>by simp [aw.l0] at h,fun _ _ _ _ r h=>by simp [aw.l1] at h⟩
 | k+1=>by
  obtain ⟨ih0,ih1⟩:=aw.bg k
  refine ⟨?_,?_⟩
  ·intro y0 y1 y2
   unfold aw.l0
   repeat' first
   | (with_reducible first | exact ih0 _ _ _ | exact ih1 _ _ _ _ | exact LeO.refl _ | exact LeO.none _ | refine LeO.ite ?_ ?_ | refine LeO.bind ?_ (fun _=>?_))
   | exact ih0 _ _ _
   | exact ih1 _ _ _ _
   | exact LeO.none _
   | refine LeO.ite ?_ ?_
   | refine LeO.bind ?_ (fun _=>?_)
  ·intro y0 y1 y2 y3
   unfold aw.l1
   repeat' first
   | (with_reducible first | exact ih0 _ _ _ | exact ih1 _ _ _ _ | exact LeO.refl _ | exact LeO.none _ | refine LeO.ite ?_ ?_ | refine LeO.bind ?_ (fun _=>?_))
   | exact ih0 _ _ _
   | exact ih1 _ _ _ _
   | exact LeO.none _
   | refine LeO.ite ?_ ?_
   | refine LeO.bind ?_ (fun _=>?_)
theorem aw.mono:∀ a0 k,LeO (aw.f k a0) (aw.f (k+1) a0):=by
 intro a0 k
 obtain ⟨ih0,ih1⟩:=aw.bg k
 unfold aw.f
 repeat' first
  | (with_reducible first | exact ih0 _ _ _ | exact ih1 _ _ _ _ | exact LeO.refl _ | exact LeO.none _ | refine LeO.ite ?_ ?_ | refine LeO.bind ?_ (fun _=>?_))
  | exact ih0 _ _ _
  | exact ih1 _ _ _ _
  | exact LeO.none _
  | refine LeO.ite ?_ ?_
  | refine LeO.bind ?_ (fun _=>?_)
def bR.j0:Nat→ByteArray→Bool→List Int→List Int→Option (ByteArray)
 | 0,_,_,_,_=>none
 | k+1,x3,x900000,x900001,x900002=>(an.f k x900002 (([1]:List Int))).bind fun t904=>(if t904=0 then (some x3) else ((aw.f k x900002).bind fun t905=>(if 1+t905.size≤9223372036854775807 then (if x3.size+((⟨#[47]⟩:ByteArray)++t905).size≤9223372036854775807 then (some (x3++((⟨#[47]⟩:ByteArray)++t905))) else (none)) else (none))))
def aL.l0:Nat→List Int→List Int→Int→Int→Option (Bool)
 | 0,_,_,_,_=>none
 | k+1,x0,x1,x12,x13=>if x13<x12 then (if 0≤x13 then (if x13<(x0.length:Int) then (if x13<(x1.length:Int) then (if (rd x0 x13)=(rd x1 x13) then (aL.l0 k x0 x1 x12 (wrap64 (x13+1))) else (some false)) else (none)) else (none)) else (none)) else (some true)
def aL.f (k:Nat) (l0:List Int) (l1:List Int):Option (Bool):=if (l0.length:Int)=(l1.length:Int) then (aL.l0 k l0 l1 (l0.length:Int) 0) else (some false)
theorem aL.bg:∀ k,(∀ y0 y1 y2 y3,LeO (aL.l0 k y0 y1 y2 y3) (aL.l0 (k+1) y0 y1 y2 y3))
 | 0=>fun _ _ _ _ r h=>by simp [aL.l0] at h
 | k+1=>by
  have ih0:=aL.bg k
  ·intro y0 y1 y2 y3
   unfold aL.l0
   repeat' first
   | (with_reducible first | exact ih0 _ _ _ _ | exact LeO.refl _ | exact LeO.none _ | refine LeO.ite ?_ ?_ | refine LeO.bind ?_ (fun _=>?_))
   | exact ih0 _ _ _ _
   | exact LeO.none _
   | refine LeO.ite ?_ ?_
   | refine LeO.bind ?_ (fun _=>?_)
theorem aL.mono:∀ a0 a1 k,LeO (aL.f k a0 a1) (aL.f (k+1) a0 a1):=by
 intro a0 a1 k
 have ih0:=aL.bg k
 unfold aL.f
 repeat' first
  | (with_reducible first | exact ih0 _ _ _ _ | exact LeO.refl _ | exact LeO.none _ | refine LeO.ite ?_ ?_ | refine LeO.bind ?_ (fun _=>?_))
  | exact ih0 _ _ _ _
  | exact LeO.none _
  | refine LeO.ite ?_ ?_
  | refine LeO.bind ?_ (fun _=>?_)
mutual
def aA.l0:Nat→List Int→List Int→List Int→Int→Int→Option (List Int)
 | 0,_,_,_,_,_=>none
 | k+1,x1,x5,x19,x20,x21=>if x21<x20 then (if 0≤x21 then (if x21<(x19.length:Int) then (aA.l1 k x1 x5 x21 (rd x19 x21) 0 x19 x20 x21 x1 (x1.length:Int) 0) else (none)) else (none)) else ((ai.f k x5).bind fun t963=>(some t963))
def aA.l1:Nat→List Int→List Int→Int→Int→Int→List Int→Int→Int→List Int→Int→Int→Option (List Int)
 | 0,_,_,_,_,_,_,_,_,_,_,_=>none
 | k+1,x1,x5,x6,x7,x8,x19,x20,x21,x26,x27,x28=>if x28<x27 then (if 0≤x28 then (if x28<(x26.length:Int) then (if 0≤(wrap64 (x6+x28)) then (if (wrap64 (x6+x28))<(x5.length:Int) then (aA.l1 k x1 (x5.set ((wrap64 (x6+x28)):Int).toNat (Int.tmod (wrap64 (x8+(wrap64 ((rd x5 (wrap64 (x6+x28)))+(wrap64 (x7*(rd x26 x28))))))) 10000)) x6 x7 (wrap64 (Int.tdiv (wrap64 (x8+(wrap64 ((rd x5 (wrap64 (x6+x28)))+(wrap64 (x7*(rd x26 x28))))))) 10000)) x19 x20 x21 x26 x27 (wrap64 (x28+1))) else (none)) else (none)) else (none)) else (none)) else (aA.l2 k x1 x5 x8 (wrap64 (x6+(x1.length:Int))) x19 x20 x21)
def aA.l2:Nat→List Int→List Int→Int→Int→List Int→Int→Int→Option (List Int)
 | 0,_,_,_,_,_,_,_=>none
 | k+1,x1,x5,x8,x11,x19,x20,x21=>if x8>0 then (if 0≤x11 then (if x11<(x5.length:Int) then (aA.l2 k x1 (x5.set (x11:Int).toNat (Int.tmod (wrap64 (x8+(rd x5 x11))) 10000)) (wrap64 (Int.tdiv (wrap64 (x8+(rd x5 x11))) 10000)) (wrap64 (x11+1)) x19 x20 x21) else (none)) else (none)) else (aA.l0 k x1 x5 x19 x20 (wrap64 (x21+1)))
end
def aA.f (k:Nat) (l0:List Int) (l1:List Int):Option (List Int):=if 0≤(wrap64 ((wrap64 ((l0.length:Int)+(l1.length:Int)))+1)) then (if (wrap64 ((wrap64 ((l0.length:Int)+(l1.length:Int)))+1):Int).toNat≤35184372088832 then (aA.l0 k l1 (List.replicate (wrap64 ((wrap64 ((l0.length:Int)+(l1.length:Int)))+1):Int).toNat 0) l0 (l0.length:Int) 0) else (none)) else (none)
theorem aA.bg:∀ k,(∀ y0 y1 y2 y3 y4,LeO (aA.l0 k y0 y1 y2 y3 y4) (aA.l0 (k+1) y0 y1 y2 y3 y4))∧(∀ y0 y1 y2 y3 y4 y5 y6 y7 y8 y9 y10,LeO (aA.l1 k y0 y1 y2 y3 y4 y5 y6 y7 y8 y9 y10) (aA.l1 (k+1) y0 y1 y2 y3 y4 y5 y6 y7 y8 y9 y10))∧(∀ y0 y1 y2 y3 y4 y5 y6,LeO (aA.l2 k y0 y1 y2 y3 y4 y5 y6) (aA.l2 (k+1) y0 y1 y2 y3 y4 y5 y6))
 | 0=>⟨fun _ _ _ _ _ r h=>by simp [aA.l0] at h,fun _ _ _ _ _ _ _ _ _ _ _ r h=>by simp [aA.l1] at h,fun _ _ _ _ _ _ _ r h=>by simp [aA.l2] at h⟩
 | k+1=>by
  obtain ⟨ih0,ih1,ih2⟩:=aA.bg k
  refine ⟨?_,?_,?_⟩
  ·intro y0 y1 y2 y3 y4
   unfold aA.l0
   repeat' first
   | (with_reducible first | exact ih0 _ _ _ _ _ | exact ih1 _ _ _ _ _ _ _ _ _ _ _ | exact ih2 _ _ _ _ _ _ _ | exact ai.mono _ _ | exact LeO.refl _ | exact LeO.none _ | refine LeO.ite ?_ ?_ | refine LeO.bind ?_ (fun _=>?_))
   | exact ih0 _ _ _ _ _
   | exact ih1 _ _ _ _ _ _ _ _ _ _ _
   | exact ih2 _ _ _ _ _ _ _
   | exact ai.mono _ _
   | exact LeO.none _
   | refine LeO.ite ?_ ?_
   | refine LeO.bind ?_ (fun _=>?_)
  ·intro y0 y1 y2 y3 y4 y5 y6 y7 y8 y9 y10
   unfold aA.l1
   repeat' first
   | (with_reducible first | exact ih0 _ _ _ _ _ | exact ih1 _ _ _ _ _ _ _ _ _ _ _ | exact ih2 _ _ _ _ _ _ _ | exact ai.mono _ _ | exact LeO.refl _ | exact LeO.none _ | refine LeO.ite ?_ ?_ | refine LeO.bind ?_ (fun _=>?_))
   | exact ih0 _ _ _ _ _
   | exact ih1 _ _ _ _ _ _ _ _ _ _ _
   | exact ih2 _ _ _ _ _ _ _
   | exact ai.mono _ _
   | exact LeO.none _
   | refine LeO.ite ?_ ?_
   | refine LeO.bind ?_ (fun _=>?_)
  ·intro y0 y1 y2 y3 y4 y5 y6
   unfold aA.l2
   repeat' first
   | (with_reducible first | exact ih0 _ _ _ _ _ | exact ih1 _ _ _ _ _ _ _ _ _ _ _ | exact ih2 _ _ _ _ _ _ _ | exact ai.mono _ _ | exact LeO.refl _ | exact LeO.none _ | refine LeO.ite ?_ ?_ | refine LeO.bind ?_ (fun _=>?_))
   | exact ih0 _ _ _ _ _
   | exact ih1 _ _ _ _ _ _ _ _ _ _ _
   | exact ih2 _ _ _ _ _ _ _
   | exact ai.mono _ _
   | exact LeO.none _
   | refine LeO.ite ?_ ?_
   | refine LeO.bind ?_ (fun _=>?_)
theorem aA.mono:∀ a0 a1 k,LeO (aA.f k a0 a1) (aA.f (k+1) a0 a1):=by
 intro a0 a1 k
 obtain ⟨ih0,ih1,ih2⟩:=aA.bg k
 unfold aA.f
 repeat' first
  | (with_reducible first | exact ih0 _ _ _ _ _ | exact ih1 _ _ _ _ _ _ _ _ _ _ _ | exact ih2 _ _ _ _ _ _ _ | exact ai.mono _ _ | exact LeO.refl _ | exact LeO.none _ | refine LeO.ite ?_ ?_ | refine LeO.bind ?_ (fun _=>?_))
  | exact ih0 _ _ _ _ _
  | exact ih1 _ _ _ _ _ _ _ _ _ _ _
  | exact ih2 _ _ _ _ _ _ _
  | exact ai.mono _ _
  | exact LeO.none _
  | refine LeO.ite ?_ ?_
  | refine LeO.bind ?_ (fun _=>?_)
mutual
def aJ.l0:Nat→List Int→List Int→List Int→Int→Int→Option (List Int)
 | 0,_,_,_,_,_=>none
 | k+1,x0,x1,x5,x6,x7=>if x7<(x0.length:Int) then (aJ.j1 k x0 x1 x5 x6 x7 true) else (if x7<(x1.length:Int) then (aJ.j1 k x0 x1 x5 x6 x7 true) else (aJ.j1 k x0 x1 x5 x6 x7 (decide (x6>0))))
def aJ.j1:Nat→List Int→List Int→List Int→Int→Int→Bool→Option (List Int)
 | 0,_,_,_,_,_,_=>none
 | k+1,x0,x1,x5,x6,x7,x21=>if x21=true then (if x7<(x0.length:Int) then (if 0≤x7 then (if x7<(x1.length:Int) then (if x5.length<17592186044416 then (aJ.l0 k x0 x1 (x5++[Int.tmod (wrap64 ((wrap64 (x6+(rd x0 x7)))+(rd x1 x7))) 10000]) (wrap64 (Int.tdiv (wrap64 ((wrap64 (x6+(rd x0 x7)))+(rd x1 x7))) 10000)) (wrap64 (x7+1))) else (none)) else (if x5.length<17592186044416 then (aJ.l0 k x0 x1 (x5++[Int.tmod (wrap64 (x6+(rd x0 x7))) 10000]) (wrap64 (Int.tdiv (wrap64 (x6+(rd x0 x7))) 10000)) (wrap64 (x7+1))) else (none))) else (none)) else (if x7<(x1.length:Int) then (if 0≤x7 then (if x5.length<17592186044416 then (aJ.l0 k x0 x1 (x5++[Int.tmod (wrap64 (x6+(rd x1 x7))) 10000]) (wrap64 (Int.tdiv (wrap64 (x6+(rd x1 x7))) 10000)) (wrap64 (x7+1))) else (none)) else (none)) else (if x5.length<17592186044416 then (aJ.l0 k x0 x1 (x5++[Int.tmod x6 10000]) (wrap64 (Int.tdiv x6 10000)) (wrap64 (x7+1))) else (none)))) else (some x5)
end
def aJ.f (k:Nat) (l0:List Int) (l1:List Int):Option (List Int):=aJ.l0 k l0 l1 ([]:List Int) 0 0
theorem aJ.bg:∀ k,(∀ y0 y1 y2 y3 y4,LeO (aJ.l0 k y0 y1 y2 y3 y4) (aJ.l0 (k+1) y0 y1 y2 y3 y4))∧(∀ y0 y1 y2 y3 y4 y5,LeO (aJ.j1 k y0 y1 y2 y3 y4 y5) (aJ.j1 (k+1) y0 y1 y2 y3 y4 y5))
 | 0=>⟨fun _ _ _ _ _ r h=>by simp [aJ.l0] at h,fun _ _ _ _ _ _ r h=>by simp [aJ.j1] at h⟩
 | k+1=>by
  obtain ⟨ih0,ih1⟩:=aJ.bg k
  refine ⟨?_,?_⟩
  ·intro y0 y1 y2 y3 y4
   unfold aJ.l0
   repeat' first
   | (with_reducible first | exact ih0 _ _ _ _ _ | exact ih1 _ _ _ _ _ _ | exact LeO.refl _ | exact LeO.none _ | refine LeO.ite ?_ ?_ | refine LeO.bind ?_ (fun _=>?_))
   | exact ih0 _ _ _ _ _
   | exact ih1 _ _ _ _ _ _
   | exact LeO.none _
   | refine LeO.ite ?_ ?_
   | refine LeO.bind ?_ (fun _=>?_)
  ·intro y0 y1 y2 y3 y4 y5
   unfold aJ.j1
   repeat' first
   | (with_reducible first | exact ih0 _ _ _ _ _ | exact ih1 _ _ _ _ _ _ | exact LeO.refl _ | exact LeO.none _ | refine LeO.ite ?_ ?_ | refine LeO.bind ?_ (fun _=>?_))
   | exact ih0 _ _ _ _ _
   | exact ih1 _ _ _ _ _ _
   | exact LeO.none _
   | refine LeO.ite ?_ ?_
   | refine LeO.bind ?_ (fun _=>?_)
theorem aJ.mono:∀ a0 a1 k,LeO (aJ.f k a0 a1) (aJ.f (k+1) a0 a1):=by
 intro a0 a1 k
 obtain ⟨ih0,ih1⟩:=aJ.bg k
 unfold aJ.f
 repeat' first
  | (with_reducible first | exact ih0 _ _ _ _ _ | exact ih1 _ _ _ _ _ _ | exact LeO.refl _ | exact LeO.none _ | refine LeO.ite ?_ ?_ | refine LeO.bind ?_ (fun _=>?_))
  | exact ih0 _ _ _ _ _
  | exact ih1 _ _ _ _ _ _
  | exact LeO.none _
  | refine LeO.ite ?_ ?_
  | refine LeO.bind ?_ (fun _=>?_)
def aT.l0:Nat→List Int→List Int→Int→Int→Option (List Int)
 | 0,_,_,_,_=>none
 | k+1,x0,x5,x7,x8=>if x8<x7 then ((aA.f k x5 x0).bind fun t1218=>(aT.l0 k x0 t1218 x7 (wrap64 (x8+1)))) else (some x5)
def aT.f (k:Nat) (l0:List Int) (a1:Int):Option (List Int):=aT.l0 k l0 (([1]:List Int)) a1 0
theorem aT.bg:∀ k,(∀ y0 y1 y2 y3,LeO (aT.l0 k y0 y1 y2 y3) (aT.l0 (k+1) y0 y1 y2 y3))
 | 0=>fun _ _ _ _ r h=>by simp [aT.l0] at h
 | k+1=>by
  have ih0:=aT.bg k
  ·intro y0 y1 y2 y3
   unfold aT.l0
   repeat' first
   | (with_reducible first | exact ih0 _ _ _ _ | exact aA.mono _ _ _ | exact LeO.refl _ | exact LeO.none _ | refine LeO.ite ?_ ?_ | refine LeO.bind ?_ (fun _=>?_))
   | exact ih0 _ _ _ _
   | exact aA.mono _ _ _
   | exact LeO.none _
   | refine LeO.ite ?_ ?_
   | refine LeO.bind ?_ (fun _=>?_)
theorem aT.mono:∀ a0 a1 k,LeO (aT.f k a0 a1) (aT.f (k+1) a0 a1):=by
 intro a0 a1 k
 have ih0:=aT.bg k
 unfold aT.f
 repeat' first
  | (with_reducible first | exact ih0 _ _ _ _ | exact aA.mono _ _ _ | exact LeO.refl _ | exact LeO.none _ | refine LeO.ite ?_ ?_ | refine LeO.bind ?_ (fun _=>?_))
  | exact ih0 _ _ _ _
  | exact aA.mono _ _ _
  | exact LeO.none _
  | refine LeO.ite ?_ ?_
  | refine LeO.bind ?_ (fun _=>?_)
end Go.Proofs.YtfbgaddecbiimaaGreatDoor.P
end
section
namespace Go.Proofs.YtfbgaddecbiimaaGreatDoor.V
open Go.RowKit Go.Proofs.YtfbgaddecbiimaaGreatDoorW.PrintWords
set_option linter.unusedVariables false
instance:UL Tryz.prog 2 (.int .i64):=⟨by kernel_rfl⟩
instance:UL Tryz.prog 3 (.int .i64):=⟨by kernel_rfl⟩
instance:UL Tryz.prog 5 (.int .u8):=⟨by kernel_rfl⟩
instance:UL Tryz.prog 9 (.string):=⟨by kernel_rfl⟩
instance:UL Tryz.prog 32 (.slice 5):=⟨by kernel_rfl⟩
instance:UL Tryz.prog 48 (.slice 3):=⟨by kernel_rfl⟩
instance:UL Tryz.prog 49 (.slice 3):=⟨by kernel_rfl⟩
instance:UL Tryz.prog 59 (.slice 151):=⟨by kernel_rfl⟩
instance:UL Tryz.prog 151 (.int .u32):=⟨by kernel_rfl⟩
instance:UL Tryz.prog 156 (.int .u64):=⟨by kernel_rfl⟩
instance:UL Tryz.prog 173 (.slice 175):=⟨by kernel_rfl⟩
instance:UL Tryz.prog 175 (.int .u64):=⟨by kernel_rfl⟩
instance:IF Tryz.prog 2 (.int .i64 0) 1 8:=⟨by unfold Info;kernel_rfl⟩
instance:IF Tryz.prog 3 (.int .i64 0) 1 8:=⟨by unfold Info;kernel_rfl⟩
instance:IF Tryz.prog 5 (.int .u8 0) 1 1:=⟨by unfold Info;kernel_rfl⟩
instance:IF Tryz.prog 151 (.int .u32 0) 1 4:=⟨by unfold Info;kernel_rfl⟩
instance:IF Tryz.prog 156 (.int .u64 0) 1 8:=⟨by unfold Info;kernel_rfl⟩
instance:IF Tryz.prog 175 (.int .u64 0) 1 8:=⟨by unfold Info;kernel_rfl⟩
instance:SZ Tryz.prog 3 1:=⟨by kernel_rfl⟩
instance:SZ Tryz.prog 5 1:=⟨by kernel_rfl⟩
instance:SZ Tryz.prog 151 1:=⟨by kernel_rfl⟩
instance:FN Tryz.prog 138:=⟨⟨_,Tryz.func138,by decide,by simp [Tryz.f138]⟩⟩
set_option maxRecDepth 100000 in
set_option maxHeartbeats 4000000 in
theorem bQ.v (k:Nat) (l0:List Int) (l1:List Int) (r:Int) (h:P.bQ.f k l0 l1=some r):Fn Tryz.prog 138 [.ints .u32 l0,.ints .u32 l1] (.int .i64 r):=by
 refine bO Tryz.func138 rfl (Nat.le_of_ble_eq_true rfl) ?_
 intro X hX
 unfold P.bQ.f at h
 refine ae (ab ?_)
 refine o1 ?_
 refine aa (ae (ae (ab ?_)))
 iterate 5 refine o1 ?_
 refine aa ?_
 refine aM rfl (fun hb=>?_) (fun hb=>?_)
 ·skip
  obtain ⟨c1,h⟩:=tkF h hb
  have g2:=hb
  clear hb
  refine ae (ae (ab ?_))
  iterate 5 refine o1 ?_
  refine aa ?_
  refine aM rfl (fun hb=>?_) (fun hb=>?_)
  ·skip
   obtain ⟨c3,h⟩:=tkT h hb
   have g4:=hb
   clear hb
   refine ae (ab ?_)
   refine o1 ?_
   refine aa ?_
   obtain rfl:=Option.some.inj h
   exact aV ⟨.inl rfl,.one (.tmp rt) rfl⟩
  ·skip
   obtain ⟨c5,h⟩:=tkF h hb
   have g6:=hb
   clear hb
   refine aN (ae (ab ?_))
   refine o1 ?_
   refine aa ?_
   obtain rfl:=Option.some.inj h
   exact aV ⟨.inl rfl,.one (.tmp rt) rfl⟩
 ·skip
  obtain ⟨c7,h⟩:=tkT h hb
  have g8:=hb
  clear hb
  refine aN (ae (ae (ab ?_)))
  iterate 4 refine o1 ?_
  refine aa (aK (bK ?_))
  refine bN (D:=List Int×List Int×Int×Unit) (fun d=>⟨look [(0,.ints .u32 d.1),(1,.ints .u32 d.2.1),(5,.int .i64 d.2.2.1)],look []⟩) (fun K_ d=>P.bQ.l0 K_ d.1 d.2.1 d.2.2.1=some r) ?_ _ (_,_,_,()) h (aX _ _ ⟨rfl,rfl,rfl,trivial⟩ trivial rfl)
  intro K9 ih10 d h
  obtain ⟨x0,x1,x5,_⟩:=d
  dsimp only at h ⊢
  cases K9 with
  | zero=>exact absurd h (by simp [P.bQ.l0])
  | succ m11 =>
   simp only [P.bQ.l0] at h
   refine bj (ae (ae (ab ?_)))
   iterate 2 refine o1 ?_
   refine aa ?_
   refine aM rfl (fun hb=>?_) (fun hb=>?_)
   ·skip
    obtain ⟨c12,h⟩:=tkT h hb
    have g13:=hb
    clear hb
    obtain ⟨q14,h⟩:=aj h
    obtain ⟨q15,h⟩:=aj h
    obtain ⟨q16,h⟩:=aj h
    refine aN (ae (aK (ae (ef ?_))))
    iterate 9 refine s1 ?_
    refine jq ?_
    refine aM rfl (fun hb=>?_) (fun hb=>?_)
    ·skip
     obtain ⟨c17,h⟩:=tkF h hb
     have g18:=hb
     clear hb
     refine ae (ae (ef ?_))
     iterate 9 refine s1 ?_
     refine jq ?_
     refine aM rfl (fun hb=>?_) (fun hb=>?_)
     ·skip
      obtain ⟨c19,h⟩:=tkT h hb
      have g20:=hb
      clear hb
      refine ae (ab ?_)
      refine o1 ?_
      refine aa ?_
      obtain rfl:=Option.some.inj h
      exact aV ⟨.inl rfl,.one (.tmp rt) rfl⟩
     ·skip
      obtain ⟨c21,h⟩:=tkF h hb
      have g22:=hb
      clear hb
      refine aN (ae (ab ?_))
      refine o1 ?_
      refine aa ?_
      obtain rfl:=Option.some.inj h
      exact aV ⟨.inl rfl,.one (.tmp rt) rfl⟩
    ·skip
     obtain ⟨c23,h⟩:=tkT h hb
     have g24:=hb
     clear hb
     refine aN (ab ?_)
     iterate 3 refine o1 ?_
     refine aa ?_
     exact aP (ih10 m11 (by omega) (_,_,_,()) h) ⟨rfl,rfl,rfl,trivial⟩ trivial rfl
   ·skip
    obtain ⟨c25,h⟩:=tkF h hb
    have g26:=hb
    clear hb
    refine bC (ae (ab ?_))
    refine o1 ?_
    refine aa ?_
    obtain rfl:=Option.some.inj h
    exact aV ⟨.inl rfl,.one (.tmp rt) rfl⟩
instance:FN Tryz.prog 169:=⟨⟨_,Tryz.func169,by decide,by simp [Tryz.f169]⟩⟩
set_option maxRecDepth 100000 in
set_option maxHeartbeats 4000000 in
theorem aQ.v (k:Nat) (l0:List Int) (r:List Int) (h:P.aQ.f k l0=some r):Fn Tryz.prog 169 [.ints .u32 l0] (.ints .u32 r):=by
 refine bO Tryz.func169 rfl (Nat.le_of_ble_eq_true rfl) ?_
 intro X hX
 unfold P.aQ.f at h
 refine ae (ab ?_)
 refine o1 ?_
 refine aa (ae (aK (bK ?_)))
 refine bN (D:=List Int×Unit) (fun d=>⟨look [(0,.ints .u32 d.1)],look []⟩) (fun K_ d=>P.aQ.l0 K_ d.1=some r) ?_ _ (_,()) h (aX _ _ ⟨rfl,trivial⟩ trivial rfl)
 intro K1 ih2 d h
 obtain ⟨x0,_⟩:=d
 dsimp only at h ⊢
 cases K1 with
 | zero=>exact absurd h (by simp [P.aQ.l0])
 | succ m3 =>
  simp only [P.aQ.l0] at h
  refine bj (ae (ae (ab ?_)))
  iterate 4 refine o1 ?_
  refine og rfl rfl rfl rfl (fun hb=>?_) (fun hb=>?_)
  ·skip
   obtain ⟨c4,h⟩:=tkT h hb
   have g5:=hb
   clear hb
   obtain ⟨q6,h⟩:=aj h
   obtain ⟨q7,h⟩:=aj h
   iterate 7 refine oT ?_
   refine o1 ?_
   refine aa ?_
   refine aM rfl (fun hb=>?_) (fun hb=>?_)
   ·skip
    obtain ⟨c8,h⟩:=tkT h hb
    have g9:=hb
    clear hb
    obtain ⟨q10,h⟩:=aj h
    refine aN (aK (ab ?_))
    iterate 6 refine o1 ?_
    refine aa ?_
    exact aP (ih2 m3 (by omega) (_,()) h) ⟨rfl,trivial⟩ trivial rfl
   ·skip
    obtain ⟨c11,h⟩:=tkF h hb
    have g12:=hb
    clear hb
    refine bC (ae (ab ?_))
    iterate 2 refine o1 ?_
    refine aa ?_
    obtain rfl:=Option.some.inj h
    exact aV ⟨.inl rfl,.one (.tmp rt) rfl⟩
  ·skip
   obtain ⟨c13,h⟩:=tkF h hb
   have g14:=hb
   clear hb
   iterate 7 refine opS ?_
   refine o1 ?_
   refine aa ?_
   refine aM rfl (fun hb=>?_) (fun hb=>?_)
   ·skip
    first | cases hb | (simp_all;done)
   ·skip
    refine bC (ae (ab ?_))
    iterate 2 refine o1 ?_
    refine aa ?_
    obtain rfl:=Option.some.inj h
    exact aV ⟨.inl rfl,.one (.tmp rt) rfl⟩
instance:FN Tryz.prog 159:=⟨⟨_,Tryz.func159,by decide,by simp [Tryz.f159]⟩⟩
set_option maxRecDepth 100000 in
set_option maxHeartbeats 4000000 in
theorem bw.v (k:Nat) (a0:Int) (r:List Int) (h:P.bw.f k a0=some r):Fn Tryz.prog 159 [.int .u64 a0] (.ints .u32 r):=by
 refine bO Tryz.func159 rfl (Nat.le_of_ble_eq_true rfl) ?_
 intro X hX
 unfold P.bw.f at h
 refine ae (ab ?_)
 refine o1 ?_
 refine aa (ae (ab ?_))
 iterate 6 refine o1 ?_
 obtain ⟨t1,ht2,h⟩:=Option.bind_eq_some_iff.1 h
 refine opC (aQ.v _ _ _ ht2) ?_
 refine o1 ?_
 refine aa ?_
 obtain rfl:=Option.some.inj h
 exact aV ⟨.inl rfl,.one (.tmp rt) rfl⟩
instance:FN Tryz.prog 173:=⟨⟨_,Tryz.func173,by decide,by simp [Tryz.f173]⟩⟩
set_option maxRecDepth 100000 in
set_option maxHeartbeats 4000000 in
theorem bb.v (k:Nat) (l0:List Int) (a1:Int) (r:List Int×Int) (h:P.bb.f k l0 a1=some r):Fn Tryz.prog 173 [.ints .u32 l0,.int .u32 a1] (.tup [.ints .u32 r.1,.int .u32 r.2]):=by
 refine bO Tryz.func173 rfl (Nat.le_of_ble_eq_true rfl) ?_
 intro X hX
 unfold P.bb.f at h
 obtain ⟨q1,h⟩:=aj h
 obtain ⟨q2,h⟩:=aj h
 refine ae (ab ?_)
 iterate 2 refine o1 ?_
 refine aa (ae (ab ?_))
 iterate 4 refine o1 ?_
 refine aa (ae (ab ?_))
 refine o1 ?_
 refine aa (ae (ae (ab ?_)))
 iterate 4 refine o1 ?_
 refine aa (aK (bK ?_))
 refine bN (D:=List Int×Int×List Int×Int×Int×Unit) (fun d=>⟨look [(0,.ints .u32 d.1),(1,.int .u32 d.2.1),(6,.own 11),(7,.int .u64 d.2.2.2.1),(8,.int .i64 d.2.2.2.2.1)],look [(11,dL 151 .u32 d.2.2.1)]⟩) (fun K_ d=>P.bb.l0 K_ d.1 d.2.1 d.2.2.1 d.2.2.2.1 d.2.2.2.2.1=some r) ?_ _ (_,_,_,_,_,()) h (aX _ _ ⟨rfl,rfl,rfl,rfl,rfl,trivial⟩ ⟨rfl,trivial⟩ rfl)
 intro K3 ih4 d h
 obtain ⟨x0,x1,x6,x7,x8,_⟩:=d
 dsimp only at h ⊢
 cases K3 with
 | zero=>exact absurd h (by simp [P.bb.l0])
 | succ m5 =>
  simp only [P.bb.l0] at h
  refine bj (ae (ae (ab ?_)))
  iterate 2 refine o1 ?_
  refine aa ?_
  refine aM rfl (fun hb=>?_) (fun hb=>?_)
  ·skip
   obtain ⟨c6,h⟩:=tkT h hb
   have g7:=hb
   clear hb
   obtain ⟨q8,h⟩:=aj h
   obtain ⟨q9,h⟩:=aj h
   obtain ⟨q10,h⟩:=fj h
   obtain ⟨q11,h⟩:=aj h
   refine aN (ae (aK (ae (ab ?_))))
   iterate 9 refine o1 ?_
   refine aa (ae (ab ?_))
   iterate 9 refine o1 ?_
   refine aa (ab ?_)
   iterate 5 refine o1 ?_
   refine aa (ab ?_)
   iterate 3 refine o1 ?_
   refine aa ?_
   exact aP (ih4 m5 (by omega) (_,_,_,_,_,()) h) ⟨rfl,rfl,rfl,rfl,rfl,trivial⟩ ⟨rfl,trivial⟩ rfl
  ·skip
   obtain ⟨c12,h⟩:=tkF h hb
   have g13:=hb
   clear hb
   refine bC (ae ?_)
   refine df (cD (k:=11) rfl) ?_
   refine ab ?_
   refine o1 ?_
   obtain ⟨t14,ht15,h⟩:=Option.bind_eq_some_iff.1 h
   refine opC (aQ.v _ _ _ ht15) ?_
   iterate 4 refine o1 ?_
   refine aa ?_
   obtain rfl:=Option.some.inj h
   exact aV ⟨.inl rfl,.two (.tmp rt) (.tmp rt) rfl rfl⟩
instance:FN Tryz.prog 190:=⟨⟨_,Tryz.func190,by decide,by simp [Tryz.f190]⟩⟩
set_option maxRecDepth 100000 in
set_option maxHeartbeats 4000000 in
theorem bits_Len32.v (a0:Int) (r:Int) (h:P.bits_Len32.f a0=some r):Fn Tryz.prog 190 [.int .u32 a0] (.int .i64 r):=by
 refine bO Tryz.func190 rfl (Nat.le_of_ble_eq_true rfl) ?_
 intro X hX
 unfold P.bits_Len32.f at h
 refine ae (ab ?_)
 refine o1 ?_
 refine aa (ae (ae (ab ?_)))
 iterate 2 refine o1 ?_
 refine aa ?_
 refine aM rfl (fun hb=>?_) (fun hb=>?_)
 ·skip
  obtain ⟨c1,h⟩:=tkT h hb
  have g2:=hb
  clear hb
  refine ae (ab ?_)
  iterate 3 refine o1 ?_
  refine aa (ab ?_)
  refine o1 ?_
  refine aa (ae (ae (ab ?_)))
  iterate 2 refine o1 ?_
  refine aa ?_
  refine aM rfl (fun hb=>?_) (fun hb=>?_)
  ·skip
   obtain ⟨c3,h⟩:=tkT h hb
   have g4:=hb
   clear hb
   obtain ⟨q5,h⟩:=aj h
   obtain ⟨q6,h⟩:=aj h
   refine ae (ab ?_)
   iterate 3 refine o1 ?_
   refine aa (ab ?_)
   iterate 3 refine o1 ?_
   refine aa (ae (ab ?_))
   iterate 7 refine o1 ?_
   refine aa ?_
   obtain rfl:=Option.some.inj h
   exact aV ⟨.inl rfl,.one (.tmp rt) rfl⟩
  ·skip
   obtain ⟨c7,h⟩:=tkF h hb
   have g8:=hb
   clear hb
   obtain ⟨q9,h⟩:=aj h
   obtain ⟨q10,h⟩:=aj h
   refine aN (ae (ab ?_))
   iterate 7 refine o1 ?_
   refine aa ?_
   obtain rfl:=Option.some.inj h
   exact aV ⟨.inl rfl,.one (.tmp rt) rfl⟩
 ·skip
  obtain ⟨c11,h⟩:=tkF h hb
  have g12:=hb
  clear hb
  refine aN (ae (ae (ab ?_)))
  iterate 2 refine o1 ?_
  refine aa ?_
  refine aM rfl (fun hb=>?_) (fun hb=>?_)
  ·skip
   obtain ⟨c13,h⟩:=tkT h hb
   have g14:=hb
   clear hb
   obtain ⟨q15,h⟩:=aj h
   obtain ⟨q16,h⟩:=aj h
   refine ae (ab ?_)
   iterate 3 refine o1 ?_
   refine aa (ab ?_)
   iterate 3 refine o1 ?_
   refine aa (ae (ab ?_))
   iterate 7 refine o1 ?_
   refine aa ?_
   obtain rfl:=Option.some.inj h
   exact aV ⟨.inl rfl,.one (.tmp rt) rfl⟩
  ·skip
   obtain ⟨c17,h⟩:=tkF h hb
   have g18:=hb
   clear hb
   obtain ⟨q19,h⟩:=aj h
   obtain ⟨q20,h⟩:=aj h
   refine aN (ae (ab ?_))
   iterate 7 refine o1 ?_
   refine aa ?_
   obtain rfl:=Option.some.inj h
   exact aV ⟨.inl rfl,.one (.tmp rt) rfl⟩
instance:FN Tryz.prog 174:=⟨⟨_,Tryz.func174,by decide,by simp [Tryz.f174]⟩⟩
set_option maxRecDepth 100000 in
set_option maxHeartbeats 4000000 in
theorem bits_LeadingZeros32.v (a0:Int) (r:Int) (h:P.bits_LeadingZeros32.f a0=some r):Fn Tryz.prog 174 [.int .u32 a0] (.int .i64 r):=by
 refine bO Tryz.func174 rfl (Nat.le_of_ble_eq_true rfl) ?_
 intro X hX
 unfold P.bits_LeadingZeros32.f at h
 refine ae (ab ?_)
 refine o1 ?_
 refine aa (ae (ab ?_))
 refine o1 ?_
 obtain ⟨t1,ht2,h⟩:=Option.bind_eq_some_iff.1 h
 refine opC (bits_Len32.v _ _ ht2) ?_
 iterate 2 refine o1 ?_
 refine aa ?_
 obtain rfl:=Option.some.inj h
 exact aV ⟨.inl rfl,.one (.tmp rt) rfl⟩
instance:FN Tryz.prog 175:=⟨⟨_,Tryz.func175,by decide,by simp [Tryz.f175]⟩⟩
set_option maxRecDepth 100000 in
set_option maxHeartbeats 4000000 in
theorem cd.v (k:Nat) (l0:List Int) (a1:Int) (r:List Int) (h:P.cd.f k l0 a1=some r):Fn Tryz.prog 175 [.ints .u32 l0,.int .i64 a1] (.ints .u32 r):=by
 refine bO Tryz.func175 rfl (Nat.le_of_ble_eq_true rfl) ?_
 intro X hX
 unfold P.cd.f at h
 refine ae (ab ?_)
 refine o1 ?_
 refine aa (ae (ae (ab ?_)))
 iterate 3 refine o1 ?_
 refine aa ?_
 refine aM rfl (fun hb=>?_) (fun hb=>?_)
 ·skip
  obtain ⟨c1,h⟩:=tkT h hb
  have g2:=hb
  clear hb
  refine ae (ab ?_)
  refine o1 ?_
  refine aa ?_
  obtain rfl:=Option.some.inj h
  exact aV ⟨.inl rfl,.one (.tmp rt) rfl⟩
 ·skip
  obtain ⟨c3,h⟩:=tkF h hb
  have g4:=hb
  clear hb
  obtain ⟨q5,h⟩:=aj h
  obtain ⟨q6,h⟩:=aj h
  refine aN (ae (ab ?_))
  iterate 7 refine o1 ?_
  refine aa (ae (ab ?_))
  iterate 7 refine o1 ?_
  refine aa (ae (ae (ab ?_)))
  iterate 3 refine o1 ?_
  refine aa (aK (bK ?_))
  refine bN (D:=Int×Int×List Int×List Int×Int×Int×Unit) (fun d=>⟨look [(5,.int .i64 d.1),(6,.int .u64 d.2.1),(7,.own 24),(25,.ints .u32 d.2.2.2.1),(26,.int .i64 d.2.2.2.2.1),(27,.int .i64 d.2.2.2.2.2.1)],look [(24,dL 151 .u32 d.2.2.1)]⟩) (fun K_ d=>P.cd.l0 K_ d.1 d.2.1 d.2.2.1 d.2.2.2.1 d.2.2.2.2.1 d.2.2.2.2.2.1=some r∧0≤d.2.1) ?_ _ (_,_,_,_,_,_,()) ⟨h,nv⟩ (aX _ _ ⟨rfl,rfl,rfl,rfl,rfl,rfl,trivial⟩ ⟨rfl,trivial⟩ rfl)
  intro K7 ih8 d h
  obtain ⟨h,b10⟩:=h
  obtain ⟨x5,x6,x7,x25,x26,x27,_⟩:=d
  dsimp only at h b10 ⊢
  cases K7 with
  | zero=>exact absurd h (by simp [P.cd.l0])
  | succ m9 =>
   simp only [P.cd.l0] at h
   refine bj (ae (ab ?_))
   refine o1 ?_
   refine aa (ae ?_)
   refine aM rfl (fun hb=>?_) (fun hb=>?_)
   ·skip
    obtain ⟨c11,h⟩:=tkT h hb
    have g12:=hb
    clear hb
    obtain ⟨q13,h⟩:=aj h
    obtain ⟨q14,h⟩:=aj h
    obtain ⟨q15,h⟩:=aj h
    obtain ⟨q16,h⟩:=aj h
    obtain ⟨q17,h⟩:=aj h
    obtain ⟨q18,h⟩:=aj h
    obtain ⟨q19,h⟩:=aj h
    refine aN (ae (aK (ae (ab ?_))))
    iterate 5 refine o1 ?_
    refine aa (ae (ab ?_))
    iterate 5 refine o1 ?_
    refine aa (ae (ab ?_))
    iterate 11 refine o1 ?_
    refine aa (ab ?_)
    iterate 10 refine o1 ?_
    refine aa (ab ?_)
    iterate 2 refine o1 ?_
    refine aa ?_
    exact aP (ih8 m9 (by omega) (_,_,_,_,_,_,()) ⟨h,nv⟩) ⟨rfl,rfl,rfl,rfl,rfl,rfl,trivial⟩ ⟨rfl,trivial⟩ rfl
   ·skip
    obtain ⟨c20,h⟩:=tkF h hb
    have g21:=hb
    clear hb
    refine bC (ae ?_)
    refine df (cD (k:=24) rfl) ?_
    refine ab ?_
    refine o1 ?_
    obtain ⟨t22,ht23,h⟩:=Option.bind_eq_some_iff.1 h
    refine opC (aQ.v _ _ _ ht23) ?_
    refine o1 ?_
    refine aa ?_
    obtain rfl:=Option.some.inj h
    exact aV ⟨.inl rfl,.one (.tmp rt) rfl⟩
instance:FN Tryz.prog 176:=⟨⟨_,Tryz.func176,by decide,by simp [Tryz.f176]⟩⟩
set_option maxRecDepth 100000 in
set_option maxHeartbeats 4000000 in
theorem ba.v {pre post:List Int} {e_:TypeId} (k:Nat) (l0:List Int) (l1:List Int) (a2:Int) (r:Bool×List Int) (h:P.ba.f k l0 l1 a2=some r):FnW Tryz.prog 176 [.win cS pre.length l0.length,.ints .u32 l1,.int .u64 a2] (dL e_ .u32 (pre++l0++post)) (.bool r.1) (dL e_ .u32 (pre++r.2++post)):=by
 refine mf Tryz.func176 rfl (Nat.le_of_ble_eq_true rfl) rfl ?_
 intro X hX
 unfold P.ba.f at h
 refine ae (ab ?_)
 refine o1 ?_
 refine aa (ae (ab ?_))
 iterate 2 refine o1 ?_
 refine aa (ae (ae (ab ?_)))
 iterate 3 refine o1 ?_
 refine aa (aK (bK ?_))
 refine bN (D:=List Int×List Int×Int×Int×Int×List Int×Int×Int×Unit) (fun d=>⟨look [(0,.win cS pre.length l0.length),(1,.ints .u32 d.2.1),(2,.int .u64 d.2.2.1),(7,.int .u64 d.2.2.2.1),(8,.int .u64 d.2.2.2.2.1),(13,.ints .u32 d.2.2.2.2.2.1),(14,.int .i64 d.2.2.2.2.2.2.1),(15,.int .i64 d.2.2.2.2.2.2.2.1)],look [(cS,dL e_ .u32 (pre++d.1++post))]⟩) (fun K_ d=>P.ba.l0 K_ d.1 d.2.1 d.2.2.1 d.2.2.2.1 d.2.2.2.2.1 d.2.2.2.2.2.1 d.2.2.2.2.2.2.1 d.2.2.2.2.2.2.2.1=some r∧d.1.length=l0.length) ?_ _ (_,_,_,_,_,_,_,_,()) ⟨h,nv⟩ (aX _ _ ⟨rfl,rfl,rfl,rfl,rfl,rfl,rfl,rfl,trivial⟩ ⟨rfl,trivial⟩ rfl)
 intro K1 ih2 d h
 obtain ⟨h,b4⟩:=h
 obtain ⟨x0,x1,x2,x7,x8,x13,x14,x15,_⟩:=d
 dsimp only at h b4 ⊢
 cases K1 with
 | zero=>exact absurd h (by simp [P.ba.l0])
 | succ m3 =>
  simp only [P.ba.l0] at h
  refine bj (ae (ab ?_))
  refine o1 ?_
  refine aa (ae ?_)
  refine aM rfl (fun hb=>?_) (fun hb=>?_)
  ·skip
   obtain ⟨c5,h⟩:=tkT h hb
   have g6:=hb
   clear hb
   obtain ⟨q7,h⟩:=aj h
   obtain ⟨q8,h⟩:=aj h
   obtain ⟨q9,h⟩:=aj h
   refine aN (ae (aK (ae (ab ?_))))
   iterate 5 refine o1 ?_
   refine aa (ae (ab ?_))
   iterate 7 refine o1 ?_
   refine aa (ae (ab ?_))
   iterate 12 refine o1 ?_
   refine aa (ae (ab ?_))
   iterate 6 refine o1 ?_
   refine aa (ae (ab ?_))
   iterate 3 refine o1 ?_
   refine aa (ab ?_)
   iterate 3 refine o1 ?_
   refine aa (ab ?_)
   iterate 2 refine o1 ?_
   refine aa ?_
   exact aP (ih2 m3 (by omega) (_,_,_,_,_,_,_,_,()) ⟨h,nv⟩) ⟨rfl,rfl,rfl,rfl,rfl,rfl,rfl,rfl,trivial⟩ ⟨rfl,trivial⟩ rfl
  ·skip
   obtain ⟨c10,h⟩:=tkF h hb
   have g11:=hb
   clear hb
   obtain ⟨q12,h⟩:=aj h
   obtain ⟨q13,h⟩:=aj h
   refine bC (ae (ab ?_))
   iterate 11 refine o1 ?_
   refine aa (ae (ab ?_))
   iterate 7 refine o1 ?_
   refine aa (ae (ab ?_))
   iterate 4 refine o1 ?_
   refine aa ?_
   obtain rfl:=Option.some.inj h
   exact aV ⟨.inl rfl,.one (.tmp rt) rfl,rfl⟩
theorem ba.len (k:Nat):∀ x0 x1 x2 x7 x8 x13 x14 x15 (r:Bool×List Int),P.ba.l0 k x0 x1 x2 x7 x8 x13 x14 x15=some r→r.2.length=x0.length:=by
 induction k with
 | zero=>intro x0 x1 x2 x7 x8 x13 x14 x15 r h;simp [P.ba.l0] at h
 | succ k ih =>
  intro x0 x1 x2 x7 x8 x13 x14 x15 r h
  simp only [P.ba.l0] at h
  repeat' split at h
  all_goals first
   | (cases h;done)
   | (have:=ih _ _ _ _ _ _ _ _ _ h;simpa using this)
   | (cases h;simp)
theorem aZ.len {k:Nat} {l:List Int} {b1 b2:Int} {l1:List Int} {a2:Int} {r:Bool×List Int} (h:P.aZ.f k l b1 b2 l1 a2=some r) (h0:0≤b1) (h1:b1≤b2) (h2:b2≤l.length):r.2.length=l.length:=by
 unfold P.aZ.f at h
 obtain ⟨p,h3,h4⟩:=Option.bind_eq_some_iff.1 h
 obtain rfl:=Option.some.inj h4
 have:=ba.len _ _ _ _ _ _ _ _ _ _ h3
 simp only [List.length_append,List.length_take,List.length_drop] at this ⊢
 omega
theorem aZ.v {e_:TypeId} {k:Nat} {l:List Int} {b1 b2:Int} {l1:List Int} {a2:Int} {r:Bool×List Int} (h:P.aZ.f k l b1 b2 l1 a2=some r) (h0:0≤b1) (h1:b1≤b2) (h2:b2≤l.length):FnW Tryz.prog 176 [.win cS b1.toNat (b2.toNat-b1.toNat),.ints .u32 l1,.int .u64 a2] (dL e_ .u32 l) (.bool r.1) (dL e_ .u32 r.2):=by
 unfold P.aZ.f at h
 obtain ⟨p,h3,h4⟩:=Option.bind_eq_some_iff.1 h
 obtain rfl:=Option.some.inj h4
 have:=ba.v (pre:=l.take b1.toNat) (post:=l.drop b2.toNat) (e_:=e_) k _ l1 a2 p h3
 have e1:l.take b1.toNat++(l.take b2.toNat).drop b1.toNat++l.drop b2.toNat=l:=by
  have:l.take b1.toNat=(l.take b2.toNat).take b1.toNat:=by rw [List.take_take,Nat.min_eq_left (by omega)]
  rw [this,List.take_append_drop,List.take_append_drop]
 have e2:(l.take b1.toNat).length=b1.toNat:=by rw [List.length_take];omega
 have e3:((l.take b2.toNat).drop b1.toNat).length=b2.toNat-b1.toNat:=by rw [List.length_drop,List.length_take];omega
 rw [e1,e2,e3] at this
 exact this
instance:FN Tryz.prog 177:=⟨⟨_,Tryz.func177,by decide,by simp [Tryz.f177]⟩⟩
set_option maxRecDepth 100000 in
set_option maxHeartbeats 4000000 in
theorem bA.v {pre post:List Int} {e_:TypeId} (k:Nat) (l0:List Int) (l1:List Int) (r:List Int) (h:P.bA.f k l0 l1=some r):FnW Tryz.prog 177 [.win cS pre.length l0.length,.ints .u32 l1] (dL e_ .u32 (pre++l0++post)) (.tup []) (dL e_ .u32 (pre++r++post)):=by
 refine mf Tryz.func177 rfl (Nat.le_of_ble_eq_true rfl) rfl ?_
 intro X hX
 unfold P.bA.f at h
 refine ae (ab ?_)
 refine o1 ?_
 refine aa (ae (ae (ab ?_)))
 iterate 3 refine o1 ?_
 refine aa (aK (bK ?_))
 refine bN (D:=List Int×List Int×Int×List Int×Int×Int×Unit) (fun d=>⟨look [(0,.win cS pre.length l0.length),(1,.ints .u32 d.2.1),(4,.int .u64 d.2.2.1),(7,.ints .u32 d.2.2.2.1),(8,.int .i64 d.2.2.2.2.1),(9,.int .i64 d.2.2.2.2.2.1)],look [(cS,dL e_ .u32 (pre++d.1++post))]⟩) (fun K_ d=>P.bA.l0 K_ d.1 d.2.1 d.2.2.1 d.2.2.2.1 d.2.2.2.2.1 d.2.2.2.2.2.1=some r∧d.1.length=l0.length) ?_ _ (_,_,_,_,_,_,()) ⟨h,nv⟩ (aX _ _ ⟨rfl,rfl,rfl,rfl,rfl,rfl,trivial⟩ ⟨rfl,trivial⟩ rfl)
 intro K1 ih2 d h
 obtain ⟨h,b4⟩:=h
 obtain ⟨x0,x1,x4,x7,x8,x9,_⟩:=d
 dsimp only at h b4 ⊢
 cases K1 with
 | zero=>exact absurd h (by simp [P.bA.l0])
 | succ m3 =>
  simp only [P.bA.l0] at h
  refine bj (ae (ab ?_))
  refine o1 ?_
  refine aa (ae ?_)
  refine aM rfl (fun hb=>?_) (fun hb=>?_)
  ·skip
   obtain ⟨c5,h⟩:=tkT h hb
   have g6:=hb
   clear hb
   obtain ⟨q7,h⟩:=aj h
   obtain ⟨q8,h⟩:=aj h
   obtain ⟨q9,h⟩:=aj h
   refine aN (ae (aK (ae (ab ?_))))
   iterate 5 refine o1 ?_
   refine aa (ae (ab ?_))
   iterate 11 refine o1 ?_
   refine aa (ae (ab ?_))
   iterate 6 refine o1 ?_
   refine aa (ab ?_)
   iterate 3 refine o1 ?_
   refine aa (ab ?_)
   iterate 2 refine o1 ?_
   refine aa ?_
   exact aP (ih2 m3 (by omega) (_,_,_,_,_,_,()) ⟨h,nv⟩) ⟨rfl,rfl,rfl,rfl,rfl,rfl,trivial⟩ ⟨rfl,trivial⟩ rfl
  ·skip
   obtain ⟨c10,h⟩:=tkF h hb
   have g11:=hb
   clear hb
   obtain ⟨q12,h⟩:=aj h
   obtain ⟨q13,h⟩:=aj h
   refine bC (ab ?_)
   iterate 10 refine o1 ?_
   refine aa ?_
   obtain rfl:=Option.some.inj h
   exact ⟨.inr rfl,.zero,rfl⟩
theorem bA.len (k:Nat):∀ x0 x1 x4 x7 x8 x9 (r:List Int),P.bA.l0 k x0 x1 x4 x7 x8 x9=some r→r.length=x0.length:=by
 induction k with
 | zero=>intro x0 x1 x4 x7 x8 x9 r h;simp [P.bA.l0] at h
 | succ k ih =>
  intro x0 x1 x4 x7 x8 x9 r h
  simp only [P.bA.l0] at h
  repeat' split at h
  all_goals first
   | (cases h;done)
   | (have:=ih _ _ _ _ _ _ _ h;simpa using this)
   | (cases h;simp)
theorem bm.len {k:Nat} {l:List Int} {b1 b2:Int} {l1:List Int} {r:List Int} (h:P.bm.f k l b1 b2 l1=some r) (h0:0≤b1) (h1:b1≤b2) (h2:b2≤l.length):r.length=l.length:=by
 unfold P.bm.f at h
 obtain ⟨p,h3,h4⟩:=Option.bind_eq_some_iff.1 h
 obtain rfl:=Option.some.inj h4
 have:=bA.len _ _ _ _ _ _ _ _ h3
 simp only [List.length_append,List.length_take,List.length_drop] at this ⊢
 omega
theorem bm.v {e_:TypeId} {k:Nat} {l:List Int} {b1 b2:Int} {l1:List Int} {r:List Int} (h:P.bm.f k l b1 b2 l1=some r) (h0:0≤b1) (h1:b1≤b2) (h2:b2≤l.length):FnW Tryz.prog 177 [.win cS b1.toNat (b2.toNat-b1.toNat),.ints .u32 l1] (dL e_ .u32 l) (.tup []) (dL e_ .u32 r):=by
 unfold P.bm.f at h
 obtain ⟨p,h3,h4⟩:=Option.bind_eq_some_iff.1 h
 obtain rfl:=Option.some.inj h4
 have:=bA.v (pre:=l.take b1.toNat) (post:=l.drop b2.toNat) (e_:=e_) k _ l1 p h3
 have e1:l.take b1.toNat++(l.take b2.toNat).drop b1.toNat++l.drop b2.toNat=l:=by
  have:l.take b1.toNat=(l.take b2.toNat).take b1.toNat:=by rw [List.take_take,Nat.min_eq_left (by omega)]
  rw [this,List.take_append_drop,List.take_append_drop]
 have e2:(l.take b1.toNat).length=b1.toNat:=by rw [List.length_take];omega
 have e3:((l.take b2.toNat).drop b1.toNat).length=b2.toNat-b1.toNat:=by rw [List.length_drop,List.length_take];omega
 rw [e1,e2,e3] at this
 exact this
instance:FN Tryz.prog 178:=⟨⟨_,Tryz.func178,by decide,by simp [Tryz.f178]⟩⟩
set_option maxRecDepth 100000 in
set_option maxHeartbeats 4000000 in
theorem bU.v (k:Nat) (l0:List Int) (a1:Int) (r:List Int) (h:P.bU.f k l0 a1=some r):Fn Tryz.prog 178 [.ints .u32 l0,.int .i64 a1] (.ints .u32 r):=by
 refine bO Tryz.func178 rfl (Nat.le_of_ble_eq_true rfl) ?_
 intro X hX
 unfold P.bU.f at h
 refine ae (ab ?_)
 refine o1 ?_
 refine aa (ae (ab ?_))
 iterate 7 refine o1 ?_
 refine aa (ae (ae (ab ?_)))
 iterate 4 refine o1 ?_
 refine aa ?_
 refine aM rfl (fun hb=>?_) (fun hb=>?_)
 ·skip
  obtain ⟨c1,h⟩:=tkT h hb
  have g2:=hb
  clear hb
  refine ae (ab ?_)
  refine o1 ?_
  refine aa ?_
  obtain rfl:=Option.some.inj h
  exact aV ⟨.inl rfl,.one (.tmp rt) rfl⟩
 ·skip
  obtain ⟨c3,h⟩:=tkF h hb
  have g4:=hb
  clear hb
  obtain ⟨q5,h⟩:=aj h
  obtain ⟨q6,h⟩:=aj h
  replace h:=Bo h
  refine aN (ae (ab ?_))
  iterate 6 refine o1 ?_
  refine aa (ae (ae (ab ?_)))
  iterate 3 refine o1 ?_
  refine aa (aK (bK ?_))
  refine bN (D:=List Int×Int×Int×List Int×Int×Int×Unit) (fun d=>⟨look [(0,.ints .u32 d.1),(5,.int .i64 d.2.1),(6,.int .u64 d.2.2.1),(7,.own 23),(25,.int .i64 d.2.2.2.2.1),(26,.int .i64 d.2.2.2.2.2.1)],look [(23,dL 151 .u32 d.2.2.2.1)]⟩) (fun K_ d=>P.bU.l0 K_ d.1 d.2.1 d.2.2.1 d.2.2.2.1 d.2.2.2.2.1 d.2.2.2.2.2.1=some r∧0≤d.2.2.1) ?_ _ (_,_,_,_,_,_,()) ⟨h,nv⟩ (aX _ _ ⟨rfl,rfl,rfl,rfl,rfl,rfl,trivial⟩ ⟨rfl,trivial⟩ rfl)
  intro K7 ih8 d h
  obtain ⟨h,b10⟩:=h
  obtain ⟨x0,x5,x6,x7,x25,x26,_⟩:=d
  dsimp only at h b10 ⊢
  cases K7 with
  | zero=>exact absurd h (by simp [P.bU.l0])
  | succ m9 =>
   simp only [P.bU.l0] at h
   refine bj (ae (ab ?_))
   refine o1 ?_
   refine aa (ae ?_)
   refine aM rfl (fun hb=>?_) (fun hb=>?_)
   ·skip
    obtain ⟨c11,h⟩:=tkT h hb
    have g12:=hb
    clear hb
    obtain ⟨q13,h⟩:=aj h
    obtain ⟨q14,h⟩:=aj h
    refine aN (ae (aK (ae (ab ?_))))
    iterate 2 refine o1 ?_
    refine aa (ae (ab ?_))
    iterate 8 refine o1 ?_
    refine aa (ae (ae (ab ?_)))
    iterate 7 refine o1 ?_
    refine aa ?_
    refine aM rfl (fun hb=>?_) (fun hb=>?_)
    ·skip
     obtain ⟨c15,h⟩:=tkT h hb
     have g16:=hb
     clear hb
     obtain ⟨q17,h⟩:=aj h
     obtain ⟨q18,h⟩:=aj h
     obtain ⟨q19,h⟩:=aj h
     obtain ⟨q20,h⟩:=aj h
     refine ab ?_
     iterate 12 refine o1 ?_
     refine aa (ab ?_)
     iterate 8 refine o1 ?_
     refine aa (ab ?_)
     iterate 2 refine o1 ?_
     refine aa ?_
     exact aP (ih8 m9 (by omega) (_,_,_,_,_,_,()) ⟨h,nv⟩) ⟨rfl,rfl,rfl,rfl,rfl,rfl,trivial⟩ ⟨rfl,trivial⟩ rfl
    ·skip
     obtain ⟨c21,h⟩:=tkF h hb
     have g22:=hb
     clear hb
     obtain ⟨q23,h⟩:=aj h
     obtain ⟨q24,h⟩:=aj h
     obtain ⟨q25,h⟩:=aj h
     refine aN (ab ?_)
     iterate 8 refine o1 ?_
     refine aa (ab ?_)
     iterate 2 refine o1 ?_
     refine aa ?_
     exact aP (ih8 m9 (by omega) (_,_,_,_,_,_,()) ⟨h,nv⟩) ⟨rfl,rfl,rfl,rfl,rfl,rfl,trivial⟩ ⟨rfl,trivial⟩ rfl
   ·skip
    obtain ⟨c26,h⟩:=tkF h hb
    have g27:=hb
    clear hb
    refine bC (ae ?_)
    refine df (cD (k:=23) rfl) ?_
    refine ab ?_
    refine o1 ?_
    obtain ⟨t28,ht29,h⟩:=Option.bind_eq_some_iff.1 h
    refine opC (aQ.v _ _ _ ht29) ?_
    refine o1 ?_
    refine aa ?_
    obtain rfl:=Option.some.inj h
    exact aV ⟨.inl rfl,.one (.tmp rt) rfl⟩
instance:FN Tryz.prog 160:=⟨⟨_,Tryz.func160,by decide,by simp [Tryz.f160]⟩⟩
set_option maxRecDepth 100000 in
set_option maxHeartbeats 4000000 in
theorem aC.v (k:Nat) (l0:List Int) (l1:List Int) (r:List Int×List Int) (h:P.aC.f k l0 l1=some r):Fn Tryz.prog 160 [.ints .u32 l0,.ints .u32 l1] (.tup [.ints .u32 r.1,.ints .u32 r.2]):=by
 refine bO Tryz.func160 rfl (Nat.le_of_ble_eq_true rfl) ?_
 intro X hX
 unfold P.aC.f at h
 refine ae (ab ?_)
 refine cp rfl (mA 151 .u32 (.inr rfl) rfl rfl (ib hX (by decide))) ?_
 refine o1 ?_
 refine aa (ae (ae (ab ?_)))
 iterate 2 refine o1 ?_
 obtain ⟨t1,ht2,h⟩:=Option.bind_eq_some_iff.1 h
 refine opC (bQ.v _ _ _ _ ht2) ?_
 refine o1 ?_
 refine aa ?_
 refine aM rfl (fun hb=>?_) (fun hb=>?_)
 ·skip
  obtain ⟨c3,h⟩:=tkT h hb
  have g4:=hb
  clear hb
  obtain ⟨q5,h⟩:=aj h
  refine ae (ab ?_)
  iterate 4 refine o1 ?_
  refine aa ?_
  obtain rfl:=Option.some.inj h
  exact aV ⟨.inl rfl,.two (.tmp rt) (.tmp rt) rfl rfl⟩
 ·skip
  obtain ⟨c6,h⟩:=tkF h hb
  have g7:=hb
  clear hb
  refine aN (ae (ae (ab ?_)))
  iterate 3 refine o1 ?_
  refine aa ?_
  refine aM rfl (fun hb=>?_) (fun hb=>?_)
  ·skip
   obtain ⟨c8,h⟩:=tkT h hb
   have g9:=hb
   clear hb
   obtain ⟨q10,h⟩:=aj h
   refine ae (ab ?_)
   iterate 4 refine o1 ?_
   obtain ⟨t11,ht12,h⟩:=Option.bind_eq_some_iff.1 h
   refine opC (bb.v _ _ _ _ ht12) ?_
   iterate 5 refine o1 ?_
   refine aa (ae (ab ?_))
   iterate 3 refine o1 ?_
   obtain ⟨t13,ht14,h⟩:=Option.bind_eq_some_iff.1 h
   refine opC (bw.v _ _ _ ht14) ?_
   iterate 2 refine o1 ?_
   refine aa ?_
   obtain rfl:=Option.some.inj h
   exact aV ⟨.inl rfl,.two (.tmp rt) (.tmp rt) rfl rfl⟩
  ·skip
   obtain ⟨c15,h⟩:=tkF h hb
   have g16:=hb
   clear hb
   obtain ⟨q17,h⟩:=aj h
   obtain ⟨q18,h⟩:=aj h
   refine aN (ae (ab ?_))
   iterate 6 refine o1 ?_
   obtain ⟨t19,ht20,h⟩:=Option.bind_eq_some_iff.1 h
   refine opC (bits_LeadingZeros32.v _ _ ht20) ?_
   refine o1 ?_
   refine aa (ae (ab ?_))
   iterate 2 refine o1 ?_
   obtain ⟨t21,ht22,h⟩:=Option.bind_eq_some_iff.1 h
   refine opC (cd.v _ _ _ _ ht22) ?_
   obtain ⟨q23,h⟩:=aj h
   obtain ⟨q24,h⟩:=aj h
   replace h:=Bo h
   refine o1 ?_
   refine aa (ae (ab ?_))
   iterate 5 refine o1 ?_
   refine aa (ae (ab ?_))
   iterate 3 refine o1 ?_
   obtain ⟨t25,ht26,h⟩:=Option.bind_eq_some_iff.1 h
   refine opC (cd.v _ _ _ _ ht26) ?_
   obtain ⟨q27,h⟩:=aj h
   obtain ⟨q28,h⟩:=aj h
   obtain ⟨q29,h⟩:=aj h
   obtain ⟨q30,h⟩:=aj h
   obtain ⟨q31,h⟩:=aj h
   obtain ⟨q32,h⟩:=aj h
   refine o1 ?_
   refine aa (ae (ab ?_))
   iterate 3 refine o1 ?_
   refine aa (ae (ab ?_))
   iterate 6 refine o1 ?_
   refine aa (ae (ef ?_))
   iterate 14 refine s1 ?_
   refine jq (ae (ae (ab ?_)))
   iterate 6 refine o1 ?_
   refine aa (aK (bK ?_))
   refine bN (D:=List Int×Int×List Int×List Int×Int×Int×Int×Int×Unit) (fun d=>⟨look [(4,.own 64),(8,.int .i64 d.2.1),(9,.ints .u32 d.2.2.1),(10,.own 52),(11,.int .i64 d.2.2.2.2.1),(12,.int .u64 d.2.2.2.2.2.1),(13,.int .u64 d.2.2.2.2.2.2.1),(14,.int .i64 d.2.2.2.2.2.2.2.1)],look [(64,dL 151 .u32 d.1),(52,dL 151 .u32 d.2.2.2.1)]⟩) (fun K_ d=>P.aC.l0 K_ d.1 d.2.1 d.2.2.1 d.2.2.2.1 d.2.2.2.2.1 d.2.2.2.2.2.1 d.2.2.2.2.2.2.1 d.2.2.2.2.2.2.2.1=some r) ?_ _ (_,_,_,_,_,_,_,_,()) h (aX _ _ ⟨rfl,rfl,rfl,rfl,rfl,rfl,rfl,rfl,trivial⟩ ⟨rfl,rfl,trivial⟩ rfl)
   intro K33 ih34 d h
   obtain ⟨x4,x8,x9,x10,x11,x12,x13,x14,_⟩:=d
   dsimp only at h ⊢
   cases K33 with
   | zero=>exact absurd h (by simp [P.aC.l0])
   | succ m35 =>
    simp only [P.aC.l0] at h
    refine bj (ae (ae (ab ?_)))
    iterate 2 refine o1 ?_
    refine aa ?_
    refine aM rfl (fun hb=>?_) (fun hb=>?_)
    ·skip
     obtain ⟨c36,h⟩:=tkT h hb
     have g37:=hb
     clear hb
     obtain ⟨q38,h⟩:=aj h
     obtain ⟨q39,h⟩:=aj h
     obtain ⟨q40,h⟩:=aj h
     obtain ⟨q41,h⟩:=aj h
     obtain ⟨q42,h⟩:=fj h
     refine aN (ae (aK (ae (ef ?_))))
     iterate 18 refine s1 ?_
     refine jq (ae (ef ?_))
     iterate 8 refine s1 ?_
     refine jq (ae (aK (bK ?_)))
     refine bN (D:=List Int×Int×List Int×List Int×Int×Int×Int×Int×Int×Int×Unit) (fun d=>⟨look [(4,.own 64),(8,.int .i64 d.2.1),(9,.ints .u32 d.2.2.1),(10,.own 52),(11,.int .i64 d.2.2.2.2.1),(12,.int .u64 d.2.2.2.2.2.1),(13,.int .u64 d.2.2.2.2.2.2.1),(14,.int .i64 d.2.2.2.2.2.2.2.1),(16,.int .u64 d.2.2.2.2.2.2.2.2.1),(17,.int .u64 d.2.2.2.2.2.2.2.2.2.1)],look [(64,dL 151 .u32 d.1),(52,dL 151 .u32 d.2.2.2.1)]⟩) (fun K_ d=>P.aC.l1 K_ d.1 d.2.1 d.2.2.1 d.2.2.2.1 d.2.2.2.2.1 d.2.2.2.2.2.1 d.2.2.2.2.2.2.1 d.2.2.2.2.2.2.2.1 d.2.2.2.2.2.2.2.2.1 d.2.2.2.2.2.2.2.2.2.1=some r∧K_≤m35) ?_ _ (_,_,_,_,_,_,_,_,_,_,()) ⟨h,by omega⟩ (aX _ _ ⟨rfl,rfl,rfl,rfl,rfl,rfl,rfl,rfl,rfl,rfl,trivial⟩ ⟨rfl,rfl,trivial⟩ rfl)
     intro K43 ih44 d h
     obtain ⟨h,b46⟩:=h
     obtain ⟨x4,x8,x9,x10,x11,x12,x13,x14,x16,x17,_⟩:=d
     dsimp only at h b46 ⊢
     cases K43 with
     | zero=>exact absurd h (by simp [P.aC.l1])
     | succ m45 =>
      simp only [P.aC.l1] at h
      refine bj (ae (ae ?_))
      refine ff (D:=Nat×List Int×Int×List Int×List Int×Int×Int×Int×Int×Int×Int×Bool×Unit) (fun d=>⟨look [(4,.own 64),(8,.int .i64 d.2.2.1),(9,.ints .u32 d.2.2.2.1),(10,.own 52),(11,.int .i64 d.2.2.2.2.2.1),(12,.int .u64 d.2.2.2.2.2.2.1),(13,.int .u64 d.2.2.2.2.2.2.2.1),(14,.int .i64 d.2.2.2.2.2.2.2.2.1),(16,.int .u64 d.2.2.2.2.2.2.2.2.2.1),(17,.int .u64 d.2.2.2.2.2.2.2.2.2.2.1),(127,.bool d.2.2.2.2.2.2.2.2.2.2.2.1)],look [(64,dL 151 .u32 d.2.1),(52,dL 151 .u32 d.2.2.2.2.1)]⟩) (fun d=>P.aC.j2 d.1 d.2.1 d.2.2.1 d.2.2.2.1 d.2.2.2.2.1 d.2.2.2.2.2.1 d.2.2.2.2.2.2.1 d.2.2.2.2.2.2.2.1 d.2.2.2.2.2.2.2.2.1 d.2.2.2.2.2.2.2.2.2.1 d.2.2.2.2.2.2.2.2.2.2.1 d.2.2.2.2.2.2.2.2.2.2.2.1=some r∧d.1≤m45) ?_ ?_
      ·skip
       rintro ⟨kq47,x4,x8,x9,x10,x11,x12,x13,x14,x16,x17,x127,_⟩ ⟨h,b48⟩
       dsimp only at h b48 ⊢
       cases kq47 with
       | zero=>exact absurd h (by simp [P.aC.j2])
       | succ m49 =>
        simp only [P.aC.j2] at h
        refine aM rfl (fun hb=>?_) (fun hb=>?_)
        ·skip
         obtain ⟨c50,h⟩:=tkT h hb
         have g51:=hb
         clear hb
         refine aN (aK (ae (ab ?_)))
         iterate 3 refine o1 ?_
         refine aa (ae (ab ?_))
         iterate 4 refine o1 ?_
         refine aa (ae (ab ?_))
         iterate 2 refine o1 ?_
         refine aa ?_
         refine aM rfl (fun hb=>?_) (fun hb=>?_)
         ·skip
          obtain ⟨c52,h⟩:=tkT h hb
          have g53:=hb
          clear hb
          rcases m49 with _ | m54
          ·exact absurd h (by simp [P.aC.j3])
          simp only [P.aC.j3] at h
          obtain ⟨q55,h⟩:=aj h
          obtain ⟨q56,h⟩:=aj h
          obtain ⟨q57,h⟩:=aj h
          refine bC (ae (ae (ab ?_)))
          iterate 9 refine o1 ?_
          obtain ⟨t58,ht59,h⟩:=Option.bind_eq_some_iff.1 h
          have q60:=aZ.len ht59 bd bd bd
          refine opCW (k:=52) (aZ.v ht59 bd bd bd) rfl rfl ?_
          refine aa ?_
          refine aM rfl (fun hb=>?_) (fun hb=>?_)
          ·skip
           obtain ⟨c61,h⟩:=tkT h hb
           have g62:=hb
           clear hb
           refine ae (ab ?_)
           iterate 3 refine o1 ?_
           refine aa (ab ?_)
           iterate 8 refine o1 ?_
           obtain ⟨t63,ht64,h⟩:=Option.bind_eq_some_iff.1 h
           have q65:=bm.len ht64 bd bd bd
           refine opCW (k:=52) (bm.v ht64 bd bd bd) rfl rfl ?_
           obtain ⟨q66,h⟩:=aj h
           refine aa (ab ?_)
           iterate 6 refine o1 ?_
           refine aa (ab ?_)
           iterate 3 refine o1 ?_
           refine aa ?_
           exact aP (ih34 m54 (by omega) (_,_,_,_,_,_,_,_,()) h) ⟨rfl,rfl,rfl,rfl,rfl,rfl,rfl,rfl,trivial⟩ ⟨rfl,rfl,trivial⟩ rfl
          ·skip
           obtain ⟨c67,h⟩:=tkF h hb
           have g68:=hb
           clear hb
           obtain ⟨q69,h⟩:=aj h
           refine aN (ab ?_)
           iterate 6 refine o1 ?_
           refine aa (ab ?_)
           iterate 3 refine o1 ?_
           refine aa ?_
           exact aP (ih34 m54 (by omega) (_,_,_,_,_,_,_,_,()) h) ⟨rfl,rfl,rfl,rfl,rfl,rfl,rfl,rfl,trivial⟩ ⟨rfl,rfl,trivial⟩ rfl
         ·skip
          obtain ⟨c70,h⟩:=tkF h hb
          have g71:=hb
          clear hb
          refine aN ?_
          exact aP (ih44 m49 (by omega) (_,_,_,_,_,_,_,_,_,_,()) ⟨h,by omega⟩) ⟨rfl,rfl,rfl,rfl,rfl,rfl,rfl,rfl,rfl,rfl,trivial⟩ ⟨rfl,rfl,trivial⟩ rfl
        ·skip
         obtain ⟨c72,h⟩:=tkF h hb
         have g73:=hb
         clear hb
         rcases m49 with _ | m74
         ·exact absurd h (by simp [P.aC.j3])
         simp only [P.aC.j3] at h
         obtain ⟨q75,h⟩:=aj h
         obtain ⟨q76,h⟩:=aj h
         obtain ⟨q77,h⟩:=aj h
         refine bC (ae (ae (ab ?_)))
         iterate 9 refine o1 ?_
         obtain ⟨t78,ht79,h⟩:=Option.bind_eq_some_iff.1 h
         have q80:=aZ.len ht79 bd bd bd
         refine opCW (k:=52) (aZ.v ht79 bd bd bd) rfl rfl ?_
         refine aa ?_
         refine aM rfl (fun hb=>?_) (fun hb=>?_)
         ·skip
          obtain ⟨c81,h⟩:=tkT h hb
          have g82:=hb
          clear hb
          refine ae (ab ?_)
          iterate 3 refine o1 ?_
          refine aa (ab ?_)
          iterate 8 refine o1 ?_
          obtain ⟨t83,ht84,h⟩:=Option.bind_eq_some_iff.1 h
          have q85:=bm.len ht84 bd bd bd
          refine opCW (k:=52) (bm.v ht84 bd bd bd) rfl rfl ?_
          obtain ⟨q86,h⟩:=aj h
          refine aa (ab ?_)
          iterate 6 refine o1 ?_
          refine aa (ab ?_)
          iterate 3 refine o1 ?_
          refine aa ?_
          exact aP (ih34 m74 (by omega) (_,_,_,_,_,_,_,_,()) h) ⟨rfl,rfl,rfl,rfl,rfl,rfl,rfl,rfl,trivial⟩ ⟨rfl,rfl,trivial⟩ rfl
         ·skip
          obtain ⟨c87,h⟩:=tkF h hb
          have g88:=hb
          clear hb
          obtain ⟨q89,h⟩:=aj h
          refine aN (ab ?_)
          iterate 6 refine o1 ?_
          refine aa (ab ?_)
          iterate 3 refine o1 ?_
          refine aa ?_
          exact aP (ih34 m74 (by omega) (_,_,_,_,_,_,_,_,()) h) ⟨rfl,rfl,rfl,rfl,rfl,rfl,rfl,rfl,trivial⟩ ⟨rfl,rfl,trivial⟩ rfl
      ·skip
       refine ab ?_
       iterate 3 refine o1 ?_
       refine og rfl rfl rfl rfl (fun hb=>?_) (fun hb=>?_)
       ·skip
        obtain ⟨c90,h⟩:=tkF h hb
        have g91:=hb
        clear hb
        obtain ⟨q92,h⟩:=aj h
        obtain ⟨q93,h⟩:=aj h
        iterate 15 refine oT ?_
        refine o1 ?_
        refine aa ?_
        exact ⟨(m45,_,_,_,_,_,_,_,_,_,_,_,()),⟨h,by omega⟩,aX _ _ ⟨rfl,rfl,rfl,rfl,rfl,rfl,rfl,rfl,rfl,rfl,rfl,trivial⟩ ⟨rfl,rfl,trivial⟩ rfl⟩
       ·skip
        obtain ⟨c94,h⟩:=tkT h hb
        have g95:=hb
        clear hb
        iterate 15 refine opS ?_
        refine o1 ?_
        refine aa ?_
        exact ⟨(m45,_,_,_,_,_,_,_,_,_,_,_,()),⟨h,by omega⟩,aX _ _ ⟨rfl,rfl,rfl,rfl,rfl,rfl,rfl,rfl,rfl,rfl,rfl,trivial⟩ ⟨rfl,rfl,trivial⟩ rfl⟩
    ·skip
     obtain ⟨c96,h⟩:=tkF h hb
     have g97:=hb
     clear hb
     refine bC (ae ?_)
     refine df (cD (k:=64) rfl) ?_
     refine df (cD (k:=52) rfl) ?_
     refine ab ?_
     refine o1 ?_
     obtain ⟨t98,ht99,h⟩:=Option.bind_eq_some_iff.1 h
     refine opC (aQ.v _ _ _ ht99) ?_
     refine o1 ?_
     obtain ⟨t100,ht101,h⟩:=Option.bind_eq_some_iff.1 h
     refine opC (aQ.v _ _ _ ht101) ?_
     refine o1 ?_
     obtain ⟨t102,ht103,h⟩:=Option.bind_eq_some_iff.1 h
     refine opC (bU.v _ _ _ _ ht103) ?_
     iterate 2 refine o1 ?_
     refine aa ?_
     obtain rfl:=Option.some.inj h
     exact aV ⟨.inl rfl,.two (.tmp rt) (.tmp rt) rfl rfl⟩
instance:FN Tryz.prog 161:=⟨⟨_,Tryz.func161,by decide,by simp [Tryz.f161]⟩⟩
set_option maxRecDepth 100000 in
set_option maxHeartbeats 4000000 in
theorem cT.v (l0:List Int) (r:Int×Bool) (h:P.cT.f l0=some r):Fn Tryz.prog 161 [.ints .u32 l0] (.tup [.int .u64 r.1,.bool r.2]):=by
 refine bO Tryz.func161 rfl (Nat.le_of_ble_eq_true rfl) ?_
 intro X hX
 unfold P.cT.f at h
 refine ae (ab ?_)
 iterate 2 refine o1 ?_
 refine aa (ae (ae (ab ?_)))
 iterate 2 refine o1 ?_
 refine aa (aK (ae (ab ?_)))
 iterate 2 refine o1 ?_
 refine aa ?_
 refine aM rfl (fun hb=>?_) (fun hb=>?_)
 ·skip
  obtain ⟨c1,h⟩:=tkT h hb
  have g2:=hb
  clear hb
  refine ae (ab ?_)
  iterate 2 refine o1 ?_
  refine aa ?_
  obtain rfl:=Option.some.inj h
  exact aV ⟨.inl rfl,.two (.tmp rt) (.tmp rt) rfl rfl⟩
 ·skip
  obtain ⟨c3,h⟩:=tkF h hb
  have g4:=hb
  clear hb
  refine ae (ab ?_)
  iterate 2 refine o1 ?_
  refine aa ?_
  refine aM rfl (fun hb=>?_) (fun hb=>?_)
  ·skip
   obtain ⟨c5,h⟩:=tkT h hb
   have g6:=hb
   clear hb
   obtain ⟨q7,h⟩:=aj h
   refine ae (ab ?_)
   iterate 6 refine o1 ?_
   refine aa ?_
   obtain rfl:=Option.some.inj h
   exact aV ⟨.inl rfl,.two (.tmp rt) (.tmp rt) rfl rfl⟩
  ·skip
   obtain ⟨c8,h⟩:=tkF h hb
   have g9:=hb
   clear hb
   refine ae (ab ?_)
   iterate 2 refine o1 ?_
   refine aa ?_
   refine aM rfl (fun hb=>?_) (fun hb=>?_)
   ·skip
    obtain ⟨c10,h⟩:=tkT h hb
    have g11:=hb
    clear hb
    obtain ⟨q12,h⟩:=aj h
    obtain ⟨q13,h⟩:=aj h
    refine ae (ef ?_)
    iterate 12 refine s1 ?_
    refine jq ?_
    obtain rfl:=Option.some.inj h
    exact aV ⟨.inl rfl,.two (.tmp rt) (.tmp rt) rfl rfl⟩
   ·skip
    obtain ⟨c14,h⟩:=tkF h hb
    have g15:=hb
    clear hb
    refine aN (ae (ab ?_))
    iterate 2 refine o1 ?_
    refine aa ?_
    obtain rfl:=Option.some.inj h
    exact aV ⟨.inl rfl,.two (.tmp rt) (.tmp rt) rfl rfl⟩
instance:FN Tryz.prog 184:=⟨⟨_,Tryz.func184,by decide,by simp [Tryz.f184]⟩⟩
set_option maxRecDepth 100000 in
set_option maxHeartbeats 4000000 in
theorem fi.v (l0:List Int) (r:Int) (h:P.fi.f l0=some r):Fn Tryz.prog 184 [.ints .u32 l0] (.int .i64 r):=by
 refine bO Tryz.func184 rfl (Nat.le_of_ble_eq_true rfl) ?_
 intro X hX
 unfold P.fi.f at h
 refine ae (ab ?_)
 refine o1 ?_
 refine aa (ae (ae (ab ?_)))
 iterate 3 refine o1 ?_
 refine aa ?_
 refine aM rfl (fun hb=>?_) (fun hb=>?_)
 ·skip
  obtain ⟨c1,h⟩:=tkT h hb
  have g2:=hb
  clear hb
  refine ae (ab ?_)
  refine o1 ?_
  refine aa ?_
  obtain rfl:=Option.some.inj h
  exact aV ⟨.inl rfl,.one (.tmp rt) rfl⟩
 ·skip
  obtain ⟨c3,h⟩:=tkF h hb
  have g4:=hb
  clear hb
  obtain ⟨q5,h⟩:=aj h
  obtain ⟨q6,h⟩:=aj h
  refine aN (ae (ab ?_))
  iterate 9 refine o1 ?_
  obtain ⟨t7,ht8,h⟩:=Option.bind_eq_some_iff.1 h
  refine opC (bits_LeadingZeros32.v _ _ ht8) ?_
  iterate 2 refine o1 ?_
  refine aa ?_
  obtain rfl:=Option.some.inj h
  exact aV ⟨.inl rfl,.one (.tmp rt) rfl⟩
instance:FN Tryz.prog 139:=⟨⟨_,Tryz.func139,by decide,by simp [Tryz.f139]⟩⟩
set_option maxRecDepth 100000 in
set_option maxHeartbeats 4000000 in
theorem bh.v (k:Nat) (l0:List Int) (l1:List Int) (r:List Int) (h:P.bh.f k l0 l1=some r):Fn Tryz.prog 139 [.ints .u32 l0,.ints .u32 l1] (.ints .u32 r):=by
 refine bO Tryz.func139 rfl (Nat.le_of_ble_eq_true rfl) ?_
 intro X hX
 unfold P.bh.f at h
 refine ae (ab ?_)
 refine o1 ?_
 refine aa (ae (ae ?_))
 refine ff (D:=Nat×List Int×List Int×Bool×Unit) (fun d=>⟨look [(0,.ints .u32 d.2.1),(1,.ints .u32 d.2.2.1),(18,.bool d.2.2.2.1)],look []⟩) (fun d=>P.bh.j0 d.1 d.2.1 d.2.2.1 d.2.2.2.1=some r∧d.1≤k) ?_ ?_
 ·skip
  rintro ⟨kq1,x0,x1,x18,_⟩ ⟨h,b2⟩
  dsimp only at h b2 ⊢
  cases kq1 with
  | zero=>exact absurd h (by simp [P.bh.j0])
  | succ m3 =>
   simp only [P.bh.j0] at h
   refine aM rfl (fun hb=>?_) (fun hb=>?_)
   ·skip
    obtain ⟨c4,h⟩:=tkT h hb
    have g5:=hb
    clear hb
    refine ae (ab ?_)
    refine o1 ?_
    refine aa ?_
    obtain rfl:=Option.some.inj h
    exact aV ⟨.inl rfl,.one (.tmp rt) rfl⟩
   ·skip
    obtain ⟨c6,h⟩:=tkF h hb
    have g7:=hb
    clear hb
    obtain ⟨q8,h⟩:=aj h
    obtain ⟨q9,h⟩:=aj h
    refine aN (ae (ab ?_))
    iterate 7 refine o1 ?_
    refine aa (ae (ae (ab ?_)))
    iterate 3 refine o1 ?_
    refine aa (aK (bK ?_))
    refine bN (D:=List Int×List Int×List Int×Int×Int×Unit) (fun d=>⟨look [(1,.ints .u32 d.1),(5,.own 24),(25,.ints .u32 d.2.2.1),(26,.int .i64 d.2.2.2.1),(27,.int .i64 d.2.2.2.2.1)],look [(24,dL 151 .u32 d.2.1)]⟩) (fun K_ d=>P.bh.l0 K_ d.1 d.2.1 d.2.2.1 d.2.2.2.1 d.2.2.2.2.1=some r∧K_≤m3) ?_ _ (_,_,_,_,_,()) ⟨h,by omega⟩ (aX _ _ ⟨rfl,rfl,rfl,rfl,rfl,trivial⟩ ⟨rfl,trivial⟩ rfl)
    intro K10 ih11 d h
    obtain ⟨h,b13⟩:=h
    obtain ⟨x1,x5,x25,x26,x27,_⟩:=d
    dsimp only at h b13 ⊢
    cases K10 with
    | zero=>exact absurd h (by simp [P.bh.l0])
    | succ m12 =>
     simp only [P.bh.l0] at h
     refine bj (ae (ab ?_))
     refine o1 ?_
     refine aa (ae ?_)
     refine aM rfl (fun hb=>?_) (fun hb=>?_)
     ·skip
      obtain ⟨c14,h⟩:=tkT h hb
      have g15:=hb
      clear hb
      obtain ⟨q16,h⟩:=aj h
      obtain ⟨q17,h⟩:=aj h
      refine aN (ae (aK (ae (ab ?_))))
      iterate 5 refine o1 ?_
      refine aa (ae (ab ?_))
      refine o1 ?_
      refine aa (ae (ae (ab ?_)))
      iterate 3 refine o1 ?_
      refine aa (aK (bK ?_))
      refine bN (D:=List Int×List Int×Int×Int×Int×List Int×Int×Int×List Int×Int×Int×Unit) (fun d=>⟨look [(1,.ints .u32 d.1),(5,.own 24),(6,.int .i64 d.2.2.1),(7,.int .u32 d.2.2.2.1),(8,.int .u64 d.2.2.2.2.1),(25,.ints .u32 d.2.2.2.2.2.1),(26,.int .i64 d.2.2.2.2.2.2.1),(27,.int .i64 d.2.2.2.2.2.2.2.1),(32,.ints .u32 d.2.2.2.2.2.2.2.2.1),(33,.int .i64 d.2.2.2.2.2.2.2.2.2.1),(34,.int .i64 d.2.2.2.2.2.2.2.2.2.2.1)],look [(24,dL 151 .u32 d.2.1)]⟩) (fun K_ d=>P.bh.l1 K_ d.1 d.2.1 d.2.2.1 d.2.2.2.1 d.2.2.2.2.1 d.2.2.2.2.2.1 d.2.2.2.2.2.2.1 d.2.2.2.2.2.2.2.1 d.2.2.2.2.2.2.2.2.1 d.2.2.2.2.2.2.2.2.2.1 d.2.2.2.2.2.2.2.2.2.2.1=some r∧K_≤m12) ?_ _ (_,_,_,_,_,_,_,_,_,_,_,()) ⟨h,by omega⟩ (aX _ _ ⟨rfl,rfl,rfl,rfl,rfl,rfl,rfl,rfl,rfl,rfl,rfl,trivial⟩ ⟨rfl,trivial⟩ rfl)
      intro K18 ih19 d h
      obtain ⟨h,b21⟩:=h
      obtain ⟨x1,x5,x6,x7,x8,x25,x26,x27,x32,x33,x34,_⟩:=d
      dsimp only at h b21 ⊢
      cases K18 with
      | zero=>exact absurd h (by simp [P.bh.l1])
      | succ m20 =>
       simp only [P.bh.l1] at h
       refine bj (ae (ab ?_))
       refine o1 ?_
       refine aa (ae ?_)
       refine aM rfl (fun hb=>?_) (fun hb=>?_)
       ·skip
        obtain ⟨c22,h⟩:=tkT h hb
        have g23:=hb
        clear hb
        obtain ⟨q24,h⟩:=aj h
        obtain ⟨q25,h⟩:=aj h
        obtain ⟨q26,h⟩:=aj h
        obtain ⟨q27,h⟩:=aj h
        refine aN (ae (aK (ae (ab ?_))))
        iterate 5 refine o1 ?_
        refine aa (ae (ab ?_))
        iterate 16 refine o1 ?_
        refine aa (ae (ab ?_))
        iterate 8 refine o1 ?_
        refine aa (ab ?_)
        iterate 3 refine o1 ?_
        refine aa (ab ?_)
        iterate 2 refine o1 ?_
        refine aa ?_
        exact aP (ih19 m20 (by omega) (_,_,_,_,_,_,_,_,_,_,_,()) ⟨h,by omega⟩) ⟨rfl,rfl,rfl,rfl,rfl,rfl,rfl,rfl,rfl,rfl,rfl,trivial⟩ ⟨rfl,trivial⟩ rfl
       ·skip
        obtain ⟨c28,h⟩:=tkF h hb
        have g29:=hb
        clear hb
        obtain ⟨q30,h⟩:=aj h
        obtain ⟨q31,h⟩:=aj h
        refine bC (ab ?_)
        iterate 9 refine o1 ?_
        refine aa (ab ?_)
        iterate 2 refine o1 ?_
        refine aa ?_
        exact aP (ih11 m20 (by omega) (_,_,_,_,_,()) ⟨h,by omega⟩) ⟨rfl,rfl,rfl,rfl,rfl,trivial⟩ ⟨rfl,trivial⟩ rfl
     ·skip
      obtain ⟨c32,h⟩:=tkF h hb
      have g33:=hb
      clear hb
      refine bC (ae ?_)
      refine df (cD (k:=24) rfl) ?_
      refine ab ?_
      refine o1 ?_
      obtain ⟨t34,ht35,h⟩:=Option.bind_eq_some_iff.1 h
      refine opC (aQ.v _ _ _ ht35) ?_
      refine o1 ?_
      refine aa ?_
      obtain rfl:=Option.some.inj h
      exact aV ⟨.inl rfl,.one (.tmp rt) rfl⟩
 ·skip
  refine ab ?_
  iterate 4 refine o1 ?_
  refine og rfl rfl rfl rfl (fun hb=>?_) (fun hb=>?_)
  ·skip
   obtain ⟨c36,h⟩:=tkF h hb
   have g37:=hb
   clear hb
   iterate 3 refine oT ?_
   refine o1 ?_
   refine aa ?_
   exact ⟨(k,_,_,_,()),⟨h,by omega⟩,aX _ _ ⟨rfl,rfl,rfl,trivial⟩ trivial rfl⟩
  ·skip
   obtain ⟨c38,h⟩:=tkT h hb
   have g39:=hb
   clear hb
   iterate 3 refine opS ?_
   refine o1 ?_
   refine aa ?_
   exact ⟨(k,_,_,_,()),⟨h,by omega⟩,aX _ _ ⟨rfl,rfl,rfl,trivial⟩ trivial rfl⟩
instance:FN Tryz.prog 142:=⟨⟨_,Tryz.func142,by decide,by simp [Tryz.f142]⟩⟩
set_option maxRecDepth 100000 in
set_option maxHeartbeats 4000000 in
theorem cf.v (k:Nat) (l0:List Int) (l1:List Int) (r:List Int) (h:P.cf.f k l0 l1=some r):Fn Tryz.prog 142 [.ints .u32 l0,.ints .u32 l1] (.ints .u32 r):=by
 refine bO Tryz.func142 rfl (Nat.le_of_ble_eq_true rfl) ?_
 intro X hX
 unfold P.cf.f at h
 obtain ⟨q1,h⟩:=aj h
 obtain ⟨q2,h⟩:=aj h
 refine ae (ab ?_)
 refine o1 ?_
 refine aa (ae (ab ?_))
 iterate 4 refine o1 ?_
 refine aa (ae (ab ?_))
 refine o1 ?_
 refine aa (ae (ae (ab ?_)))
 iterate 3 refine o1 ?_
 refine aa (aK (bK ?_))
 refine bN (D:=List Int×List Int×Int×List Int×Int×Int×Unit) (fun d=>⟨look [(1,.ints .u32 d.1),(5,.own 12),(6,.int .u64 d.2.2.1),(13,.ints .u32 d.2.2.2.1),(14,.int .i64 d.2.2.2.2.1),(15,.int .i64 d.2.2.2.2.2.1)],look [(12,dL 151 .u32 d.2.1)]⟩) (fun K_ d=>P.cf.l0 K_ d.1 d.2.1 d.2.2.1 d.2.2.2.1 d.2.2.2.2.1 d.2.2.2.2.2.1=some r) ?_ _ (_,_,_,_,_,_,()) h (aX _ _ ⟨rfl,rfl,rfl,rfl,rfl,rfl,trivial⟩ ⟨rfl,trivial⟩ rfl)
 intro K3 ih4 d h
 obtain ⟨x1,x5,x6,x13,x14,x15,_⟩:=d
 dsimp only at h ⊢
 cases K3 with
 | zero=>exact absurd h (by simp [P.cf.l0])
 | succ m5 =>
  simp only [P.cf.l0] at h
  refine bj (ae (ab ?_))
  refine o1 ?_
  refine aa (ae ?_)
  refine aM rfl (fun hb=>?_) (fun hb=>?_)
  ·skip
   obtain ⟨c6,h⟩:=tkT h hb
   have g7:=hb
   clear hb
   obtain ⟨q8,h⟩:=aj h
   obtain ⟨q9,h⟩:=aj h
   refine aN (ae (aK (ae (ab ?_))))
   iterate 5 refine o1 ?_
   refine aa (ae (ab ?_))
   iterate 5 refine o1 ?_
   refine aa (ae (ae (ab ?_)))
   iterate 4 refine o1 ?_
   refine aa ?_
   refine aM rfl (fun hb=>?_) (fun hb=>?_)
   ·skip
    obtain ⟨c10,h⟩:=tkT h hb
    have g11:=hb
    clear hb
    obtain ⟨q12,h⟩:=aj h
    refine ab ?_
    iterate 8 refine o1 ?_
    refine aa (ae (ab ?_))
    iterate 6 refine o1 ?_
    refine aa (ab ?_)
    iterate 3 refine o1 ?_
    refine aa (ab ?_)
    iterate 2 refine o1 ?_
    refine aa ?_
    exact aP (ih4 m5 (by omega) (_,_,_,_,_,_,()) h) ⟨rfl,rfl,rfl,rfl,rfl,rfl,trivial⟩ ⟨rfl,trivial⟩ rfl
   ·skip
    obtain ⟨c13,h⟩:=tkF h hb
    have g14:=hb
    clear hb
    obtain ⟨q15,h⟩:=aj h
    refine aN (ae (ab ?_))
    iterate 6 refine o1 ?_
    refine aa (ab ?_)
    iterate 3 refine o1 ?_
    refine aa (ab ?_)
    iterate 2 refine o1 ?_
    refine aa ?_
    exact aP (ih4 m5 (by omega) (_,_,_,_,_,_,()) h) ⟨rfl,rfl,rfl,rfl,rfl,rfl,trivial⟩ ⟨rfl,trivial⟩ rfl
  ·skip
   obtain ⟨c16,h⟩:=tkF h hb
   have g17:=hb
   clear hb
   refine bC (ae ?_)
   refine df (cD (k:=12) rfl) ?_
   refine ab ?_
   refine o1 ?_
   obtain ⟨t18,ht19,h⟩:=Option.bind_eq_some_iff.1 h
   refine opC (aQ.v _ _ _ ht19) ?_
   refine o1 ?_
   refine aa ?_
   obtain rfl:=Option.some.inj h
   exact aV ⟨.inl rfl,.one (.tmp rt) rfl⟩
instance:FN Tryz.prog 185:=⟨⟨_,Tryz.func185,by decide,by simp [Tryz.f185]⟩⟩
set_option maxRecDepth 100000 in
set_option maxHeartbeats 4000000 in
theorem aY.v (k:Nat) (l0:List Int) (l1:List Int) (a2:Int) (a3:Int) (r:List Int) (h:P.aY.f k l0 l1 a2 a3=some r):Fn Tryz.prog 185 [.ints .u32 l0,.ints .u32 l1,.int .i64 a2,.int .i64 a3] (.ints .u32 r):=by
 refine bO Tryz.func185 rfl (Nat.le_of_ble_eq_true rfl) ?_
 intro X hX
 unfold P.aY.f at h
 refine ae (ab ?_)
 refine o1 ?_
 refine aa (ae (ae ?_))
 refine ff (D:=Nat×List Int×List Int×Int×Int×Bool×Unit) (fun d=>⟨look [(0,.ints .u32 d.2.1),(1,.ints .u32 d.2.2.1),(2,.int .i64 d.2.2.2.1),(3,.int .i64 d.2.2.2.2.1),(14,.bool d.2.2.2.2.2.1)],look []⟩) (fun d=>P.aY.j0 d.1 d.2.1 d.2.2.1 d.2.2.2.1 d.2.2.2.2.1 d.2.2.2.2.2.1=some r∧d.1≤k) ?_ ?_
 ·skip
  rintro ⟨kq1,x0,x1,x2,x3,x14,_⟩ ⟨h,b2⟩
  dsimp only at h b2 ⊢
  cases kq1 with
  | zero=>exact absurd h (by simp [P.aY.j0])
  | succ m3 =>
   simp only [P.aY.j0] at h
   refine aM rfl (fun hb=>?_) (fun hb=>?_)
   ·skip
    obtain ⟨c4,h⟩:=tkT h hb
    have g5:=hb
    clear hb
    refine ae (ab ?_)
    iterate 3 refine o1 ?_
    obtain ⟨t6,ht7,h⟩:=Option.bind_eq_some_iff.1 h
    refine opC (bw.v _ _ _ ht7) ?_
    obtain ⟨t8,ht9,h⟩:=Option.bind_eq_some_iff.1 h
    refine opC (bh.v _ _ _ _ ht9) ?_
    iterate 4 refine o1 ?_
    obtain ⟨t10,ht11,h⟩:=Option.bind_eq_some_iff.1 h
    refine opC (bw.v _ _ _ ht11) ?_
    obtain ⟨t12,ht13,h⟩:=Option.bind_eq_some_iff.1 h
    refine opC (bh.v _ _ _ _ ht13) ?_
    obtain ⟨t14,ht15,h⟩:=Option.bind_eq_some_iff.1 h
    refine opC (cf.v _ _ _ _ ht15) ?_
    refine o1 ?_
    refine aa ?_
    obtain rfl:=Option.some.inj h
    exact aV ⟨.inl rfl,.one (.tmp rt) rfl⟩
   ·skip
    obtain ⟨c16,h⟩:=tkF h hb
    have g17:=hb
    clear hb
    refine aN (ae (ab ?_))
    iterate 3 refine o1 ?_
    obtain ⟨t18,ht19,h⟩:=Option.bind_eq_some_iff.1 h
    refine opC (bw.v _ _ _ ht19) ?_
    obtain ⟨t20,ht21,h⟩:=Option.bind_eq_some_iff.1 h
    refine opC (bh.v _ _ _ _ ht21) ?_
    iterate 4 refine o1 ?_
    obtain ⟨t22,ht23,h⟩:=Option.bind_eq_some_iff.1 h
    refine opC (bw.v _ _ _ ht23) ?_
    obtain ⟨t24,ht25,h⟩:=Option.bind_eq_some_iff.1 h
    refine opC (bh.v _ _ _ _ ht25) ?_
    obtain ⟨t26,ht27,h⟩:=Option.bind_eq_some_iff.1 h
    refine opC (cf.v _ _ _ _ ht27) ?_
    refine o1 ?_
    refine aa ?_
    obtain rfl:=Option.some.inj h
    exact aV ⟨.inl rfl,.one (.tmp rt) rfl⟩
 ·skip
  refine ab ?_
  iterate 3 refine o1 ?_
  refine og rfl rfl rfl rfl (fun hb=>?_) (fun hb=>?_)
  ·skip
   obtain ⟨c28,h⟩:=tkF h hb
   have g29:=hb
   clear hb
   iterate 2 refine oT ?_
   refine o1 ?_
   refine aa ?_
   exact ⟨(k,_,_,_,_,_,()),⟨h,by omega⟩,aX _ _ ⟨rfl,rfl,rfl,rfl,rfl,trivial⟩ trivial rfl⟩
  ·skip
   obtain ⟨c30,h⟩:=tkT h hb
   have g31:=hb
   clear hb
   iterate 2 refine opS ?_
   refine o1 ?_
   refine aa ?_
   exact ⟨(k,_,_,_,_,_,()),⟨h,by omega⟩,aX _ _ ⟨rfl,rfl,rfl,rfl,rfl,trivial⟩ trivial rfl⟩
instance:FN Tryz.prog 166:=⟨⟨_,Tryz.func166,by decide,by simp [Tryz.f166]⟩⟩
set_option maxRecDepth 100000 in
set_option maxHeartbeats 4000000 in
theorem aO.v (k:Nat) (l0:List Int) (l1:List Int) (r:List Int×List Int×Bool) (h:P.aO.f k l0 l1=some r):Fn Tryz.prog 166 [.ints .u32 l0,.ints .u32 l1] (.tup [.ints .u32 r.1,.ints .u32 r.2.1,.bool r.2.2]):=by
 refine bO Tryz.func166 rfl (Nat.le_of_ble_eq_true rfl) ?_
 intro X hX
 unfold P.aO.f at h
 refine ae (ab ?_)
 iterate 3 refine o1 ?_
 refine aa (ae (ab ?_))
 refine o1 ?_
 obtain ⟨t1,ht2,h⟩:=Option.bind_eq_some_iff.1 h
 refine opC (fi.v _ _ ht2) ?_
 refine o1 ?_
 refine aa (ae (ae (ab ?_)))
 refine o1 ?_
 obtain ⟨t3,ht4,h⟩:=Option.bind_eq_some_iff.1 h
 refine opC (fi.v _ _ ht4) ?_
 iterate 3 refine o1 ?_
 refine aa ?_
 refine aM rfl (fun hb=>?_) (fun hb=>?_)
 ·skip
  obtain ⟨c5,h⟩:=tkT h hb
  have g6:=hb
  clear hb
  refine ae (ab ?_)
  iterate 3 refine o1 ?_
  refine aa ?_
  obtain rfl:=Option.some.inj h
  exact aV ⟨.inl rfl,.three (.tmp rt) (.tmp rt) (.tmp rt) rfl rfl rfl⟩
 ·skip
  obtain ⟨c7,h⟩:=tkF h hb
  have g8:=hb
  clear hb
  refine aN (ae (ab ?_))
  iterate 3 refine o1 ?_
  obtain ⟨t9,ht10,h⟩:=Option.bind_eq_some_iff.1 h
  refine opC (bU.v _ _ _ _ ht10) ?_
  obtain ⟨t11,ht12,h⟩:=Option.bind_eq_some_iff.1 h
  refine opC (cT.v _ _ ht12) ?_
  iterate 5 refine o1 ?_
  refine aa (ae (ab ?_))
  iterate 3 refine o1 ?_
  obtain ⟨t13,ht14,h⟩:=Option.bind_eq_some_iff.1 h
  refine opC (bU.v _ _ _ _ ht14) ?_
  obtain ⟨t15,ht16,h⟩:=Option.bind_eq_some_iff.1 h
  refine opC (cT.v _ _ ht16) ?_
  iterate 5 refine o1 ?_
  refine aa (ae (ab ?_))
  iterate 4 refine o1 ?_
  refine aa (ae (ab ?_))
  iterate 6 refine o1 ?_
  refine aa (ae (aK (bK ?_)))
  refine bN (D:=List Int×List Int×Int×Int×Int×Int×Int×Int×Unit) (fun d=>⟨look [(0,.ints .u32 d.1),(1,.ints .u32 d.2.1),(12,.int .i64 d.2.2.1),(13,.int .i64 d.2.2.2.1),(14,.int .i64 d.2.2.2.2.1),(15,.int .i64 d.2.2.2.2.2.1),(16,.int .i64 d.2.2.2.2.2.2.1),(17,.int .i64 d.2.2.2.2.2.2.2.1)],look []⟩) (fun K_ d=>P.aO.l0 K_ d.1 d.2.1 d.2.2.1 d.2.2.2.1 d.2.2.2.2.1 d.2.2.2.2.2.1 d.2.2.2.2.2.2.1 d.2.2.2.2.2.2.2.1=some r) ?_ _ (_,_,_,_,_,_,_,_,()) h (aX _ _ ⟨rfl,rfl,rfl,rfl,rfl,rfl,rfl,rfl,trivial⟩ trivial rfl)
  intro K17 ih18 d h
  obtain ⟨x0,x1,x12,x13,x14,x15,x16,x17,_⟩:=d
  dsimp only at h ⊢
  cases K17 with
  | zero=>exact absurd h (by simp [P.aO.l0])
  | succ m19 =>
   simp only [P.aO.l0] at h
   refine bj (ae (ae ?_))
   refine ff (D:=Nat×List Int×List Int×Int×Int×Int×Int×Int×Int×Bool×Unit) (fun d=>⟨look [(0,.ints .u32 d.2.1),(1,.ints .u32 d.2.2.1),(12,.int .i64 d.2.2.2.1),(13,.int .i64 d.2.2.2.2.1),(14,.int .i64 d.2.2.2.2.2.1),(15,.int .i64 d.2.2.2.2.2.2.1),(16,.int .i64 d.2.2.2.2.2.2.2.1),(17,.int .i64 d.2.2.2.2.2.2.2.2.1),(55,.bool d.2.2.2.2.2.2.2.2.2.1)],look []⟩) (fun d=>P.aO.j1 d.1 d.2.1 d.2.2.1 d.2.2.2.1 d.2.2.2.2.1 d.2.2.2.2.2.1 d.2.2.2.2.2.2.1 d.2.2.2.2.2.2.2.1 d.2.2.2.2.2.2.2.2.1 d.2.2.2.2.2.2.2.2.2.1=some r∧d.1≤m19) ?_ ?_
   ·skip
    rintro ⟨kq20,x0,x1,x12,x13,x14,x15,x16,x17,x55,_⟩ ⟨h,b21⟩
    dsimp only at h b21 ⊢
    cases kq20 with
    | zero=>exact absurd h (by simp [P.aO.j1])
    | succ m22 =>
     simp only [P.aO.j1] at h
     refine aM rfl (fun hb=>?_) (fun hb=>?_)
     ·skip
      obtain ⟨c23,h⟩:=tkT h hb
      have g24:=hb
      clear hb
      obtain ⟨q25,h⟩:=fj h
      obtain ⟨q26,h⟩:=fj h
      refine aN (aK (ae (ab ?_)))
      iterate 8 refine o1 ?_
      refine aa (ae (ae (ab ?_)))
      iterate 9 refine o1 ?_
      refine aa ?_
      refine aM rfl (fun hb=>?_) (fun hb=>?_)
      ·skip
       obtain ⟨c27,h⟩:=tkF h hb
       have g28:=hb
       clear hb
       rcases m22 with _ | m29
       ·exact absurd h (by simp [P.aO.j2])
       simp only [P.aO.j2] at h
       refine bC (ae (ae (ab ?_)))
       iterate 2 refine o1 ?_
       refine aa ?_
       refine aM rfl (fun hb=>?_) (fun hb=>?_)
       ·skip
        obtain ⟨c30,h⟩:=tkT h hb
        have g31:=hb
        clear hb
        refine ae (ab ?_)
        iterate 3 refine o1 ?_
        refine aa ?_
        obtain rfl:=Option.some.inj h
        exact aV ⟨.inl rfl,.three (.tmp rt) (.tmp rt) (.tmp rt) rfl rfl rfl⟩
       ·skip
        obtain ⟨c32,h⟩:=tkF h hb
        have g33:=hb
        clear hb
        refine aN (ae (ab ?_))
        iterate 4 refine o1 ?_
        obtain ⟨t34,ht35,h⟩:=Option.bind_eq_some_iff.1 h
        refine opC (aY.v _ _ _ _ _ _ ht35) ?_
        iterate 4 refine o1 ?_
        obtain ⟨t36,ht37,h⟩:=Option.bind_eq_some_iff.1 h
        refine opC (aY.v _ _ _ _ _ _ ht37) ?_
        iterate 3 refine o1 ?_
        refine aa ?_
        obtain rfl:=Option.some.inj h
        exact aV ⟨.inl rfl,.three (.tmp rt) (.tmp rt) (.tmp rt) rfl rfl rfl⟩
      ·skip
       obtain ⟨c38,h⟩:=tkT h hb
       have g39:=hb
       clear hb
       refine aN (ae (ab ?_))
       iterate 8 refine o1 ?_
       refine aa (ae (ab ?_))
       iterate 8 refine o1 ?_
       refine aa (ab ?_)
       iterate 8 refine o1 ?_
       refine aa ?_
       exact aP (ih18 m22 (by omega) (_,_,_,_,_,_,_,_,()) h) ⟨rfl,rfl,rfl,rfl,rfl,rfl,rfl,rfl,trivial⟩ trivial rfl
     ·skip
      obtain ⟨c40,h⟩:=tkF h hb
      have g41:=hb
      clear hb
      rcases m22 with _ | m42
      ·exact absurd h (by simp [P.aO.j2])
      simp only [P.aO.j2] at h
      refine bC (ae (ae (ab ?_)))
      iterate 2 refine o1 ?_
      refine aa ?_
      refine aM rfl (fun hb=>?_) (fun hb=>?_)
      ·skip
       obtain ⟨c43,h⟩:=tkT h hb
       have g44:=hb
       clear hb
       refine ae (ab ?_)
       iterate 3 refine o1 ?_
       refine aa ?_
       obtain rfl:=Option.some.inj h
       exact aV ⟨.inl rfl,.three (.tmp rt) (.tmp rt) (.tmp rt) rfl rfl rfl⟩
      ·skip
       obtain ⟨c45,h⟩:=tkF h hb
       have g46:=hb
       clear hb
       refine aN (ae (ab ?_))
       iterate 4 refine o1 ?_
       obtain ⟨t47,ht48,h⟩:=Option.bind_eq_some_iff.1 h
       refine opC (aY.v _ _ _ _ _ _ ht48) ?_
       iterate 4 refine o1 ?_
       obtain ⟨t49,ht50,h⟩:=Option.bind_eq_some_iff.1 h
       refine opC (aY.v _ _ _ _ _ _ ht50) ?_
       iterate 3 refine o1 ?_
       refine aa ?_
       obtain rfl:=Option.some.inj h
       exact aV ⟨.inl rfl,.three (.tmp rt) (.tmp rt) (.tmp rt) rfl rfl rfl⟩
   ·skip
    refine ab ?_
    iterate 5 refine o1 ?_
    refine og rfl rfl rfl rfl (fun hb=>?_) (fun hb=>?_)
    ·skip
     obtain ⟨c51,h⟩:=tkF h hb
     have g52:=hb
     clear hb
     iterate 4 refine oT ?_
     refine o1 ?_
     refine aa ?_
     exact ⟨(m19,_,_,_,_,_,_,_,_,_,()),⟨h,by omega⟩,aX _ _ ⟨rfl,rfl,rfl,rfl,rfl,rfl,rfl,rfl,rfl,trivial⟩ trivial rfl⟩
    ·skip
     obtain ⟨c53,h⟩:=tkT h hb
     have g54:=hb
     clear hb
     iterate 4 refine opS ?_
     refine o1 ?_
     refine aa ?_
     exact ⟨(m19,_,_,_,_,_,_,_,_,_,()),⟨h,by omega⟩,aX _ _ ⟨rfl,rfl,rfl,rfl,rfl,rfl,rfl,rfl,rfl,trivial⟩ trivial rfl⟩
instance:FN Tryz.prog 129:=⟨⟨_,Tryz.func129,by decide,by simp [Tryz.f129]⟩⟩
set_option maxRecDepth 100000 in
set_option maxHeartbeats 4000000 in
theorem bE.v (k:Nat) (l0:List Int) (l1:List Int) (r:List Int) (h:P.bE.f k l0 l1=some r):Fn Tryz.prog 129 [.ints .u32 l0,.ints .u32 l1] (.ints .u32 r):=by
 refine bO Tryz.func129 rfl (Nat.le_of_ble_eq_true rfl) ?_
 intro X hX
 unfold P.bE.f at h
 refine ae (ab ?_)
 refine o1 ?_
 refine aa (ae (ae (ab ?_)))
 iterate 2 refine o1 ?_
 obtain ⟨t1,ht2,h⟩:=Option.bind_eq_some_iff.1 h
 refine opC (bQ.v _ _ _ _ ht2) ?_
 refine o1 ?_
 refine aa ?_
 refine ff (D:=Nat×List Int×List Int×Unit) (fun d=>⟨look [(0,.ints .u32 d.2.1),(1,.ints .u32 d.2.2.1)],look []⟩) (fun d=>P.bE.j0 d.1 d.2.1 d.2.2.1=some r∧d.1≤k) ?_ ?_
 ·skip
  rintro ⟨kq3,x0,x1,_⟩ ⟨h,b4⟩
  dsimp only at h b4 ⊢
  cases kq3 with
  | zero=>exact absurd h (by simp [P.bE.j0])
  | succ m5 =>
   simp only [P.bE.j0] at h
   refine ae (aK (bK ?_))
   refine bN (D:=List Int×List Int×Unit) (fun d=>⟨look [(0,.ints .u32 d.1),(1,.ints .u32 d.2.1)],look []⟩) (fun K_ d=>P.bE.l0 K_ d.1 d.2.1=some r∧K_≤m5) ?_ _ (_,_,()) ⟨h,by omega⟩ (aX _ _ ⟨rfl,rfl,trivial⟩ trivial rfl)
   intro K6 ih7 d h
   obtain ⟨h,b9⟩:=h
   obtain ⟨x0,x1,_⟩:=d
   dsimp only at h b9 ⊢
   cases K6 with
   | zero=>exact absurd h (by simp [P.bE.l0])
   | succ m8 =>
    simp only [P.bE.l0] at h
    refine bj (ae (ae (ab ?_)))
    iterate 3 refine o1 ?_
    refine aa ?_
    refine aM rfl (fun hb=>?_) (fun hb=>?_)
    ·skip
     obtain ⟨c10,h⟩:=tkT h hb
     have g11:=hb
     clear hb
     refine aN (aK (ae (ae (ab ?_))))
     iterate 2 refine o1 ?_
     obtain ⟨t12,ht13,h⟩:=Option.bind_eq_some_iff.1 h
     refine opC (aO.v _ _ _ _ ht13) ?_
     iterate 7 refine o1 ?_
     refine aa (ae (ab ?_))
     refine o1 ?_
     refine aa ?_
     refine aM rfl (fun hb=>?_) (fun hb=>?_)
     ·skip
      obtain ⟨c14,h⟩:=tkT h hb
      have g15:=hb
      clear hb
      refine ae (ab ?_)
      iterate 4 refine o1 ?_
      refine aa (bC ?_)
      exact aP (ih7 m8 (by omega) (_,_,()) ⟨h,by omega⟩) ⟨rfl,rfl,trivial⟩ trivial rfl
     ·skip
      obtain ⟨c16,h⟩:=tkF h hb
      have g17:=hb
      clear hb
      refine aN (ae (ab ?_))
      iterate 2 refine o1 ?_
      obtain ⟨t18,ht19,h⟩:=Option.bind_eq_some_iff.1 h
      refine opC (aC.v _ _ _ _ ht19) ?_
      iterate 5 refine o1 ?_
      refine aa (ab ?_)
      iterate 4 refine o1 ?_
      refine aa ?_
      exact aP (ih7 m8 (by omega) (_,_,()) ⟨h,by omega⟩) ⟨rfl,rfl,trivial⟩ trivial rfl
    ·skip
     obtain ⟨c20,h⟩:=tkF h hb
     have g21:=hb
     clear hb
     refine bC (ae (ae (ab ?_)))
     iterate 3 refine o1 ?_
     refine aa ?_
     refine aM rfl (fun hb=>?_) (fun hb=>?_)
     ·skip
      obtain ⟨c22,h⟩:=tkT h hb
      have g23:=hb
      clear hb
      obtain ⟨q24,h⟩:=aj h
      refine ae (ab ?_)
      iterate 3 refine o1 ?_
      refine aa ?_
      obtain rfl:=Option.some.inj h
      exact aV ⟨.inl rfl,.one (.tmp rt) rfl⟩
     ·skip
      obtain ⟨c25,h⟩:=tkF h hb
      have g26:=hb
      clear hb
      refine aN (ae (ab ?_))
      iterate 2 refine o1 ?_
      obtain ⟨t27,ht28,h⟩:=Option.bind_eq_some_iff.1 h
      refine opC (aC.v _ _ _ _ ht28) ?_
      iterate 5 refine o1 ?_
      refine aa (ae (ab ?_))
      refine o1 ?_
      obtain ⟨t29,ht30,h⟩:=Option.bind_eq_some_iff.1 h
      refine opC (cT.v _ _ ht30) ?_
      iterate 5 refine o1 ?_
      refine aa (ae (ab ?_))
      refine o1 ?_
      obtain ⟨t31,ht32,h⟩:=Option.bind_eq_some_iff.1 h
      refine opC (cT.v _ _ ht32) ?_
      iterate 5 refine o1 ?_
      refine aa (ae (aK (bK ?_)))
      refine bN (D:=Int×Int×Unit) (fun d=>⟨look [(12,.int .u64 d.1),(14,.int .u64 d.2.1)],look []⟩) (fun K_ d=>P.bE.l1 K_ d.1 d.2.1=some r∧K_≤m8) ?_ _ (_,_,()) ⟨h,by omega⟩ (aX _ _ ⟨rfl,rfl,trivial⟩ trivial rfl)
      intro K33 ih34 d h
      obtain ⟨h,b36⟩:=h
      obtain ⟨x12,x14,_⟩:=d
      dsimp only at h b36 ⊢
      cases K33 with
      | zero=>exact absurd h (by simp [P.bE.l1])
      | succ m35 =>
       simp only [P.bE.l1] at h
       refine bj (ae (ae (ab ?_)))
       iterate 2 refine o1 ?_
       refine aa ?_
       refine aM rfl (fun hb=>?_) (fun hb=>?_)
       ·skip
        obtain ⟨c37,h⟩:=tkF h hb
        have g38:=hb
        clear hb
        refine aN (aK (ef ?_))
        iterate 6 refine s1 ?_
        refine jq ?_
        exact aP (ih34 m35 (by omega) (_,_,()) ⟨h,by omega⟩) ⟨rfl,rfl,trivial⟩ trivial rfl
       ·skip
        obtain ⟨c39,h⟩:=tkT h hb
        have g40:=hb
        clear hb
        refine bC (ae (ab ?_))
        refine o1 ?_
        obtain ⟨t41,ht42,h⟩:=Option.bind_eq_some_iff.1 h
        refine opC (bw.v _ _ _ ht42) ?_
        refine o1 ?_
        refine aa ?_
        obtain rfl:=Option.some.inj h
        exact aV ⟨.inl rfl,.one (.tmp rt) rfl⟩
 ·skip
  refine aM rfl (fun hb=>?_) (fun hb=>?_)
  ·skip
   obtain ⟨c43,h⟩:=tkT h hb
   have g44:=hb
   clear hb
   refine ab ?_
   iterate 4 refine o1 ?_
   refine aa ?_
   exact ⟨(k,_,_,()),⟨h,by omega⟩,aX _ _ ⟨rfl,rfl,trivial⟩ trivial rfl⟩
  ·skip
   obtain ⟨c45,h⟩:=tkF h hb
   have g46:=hb
   clear hb
   refine aN ?_
   exact ⟨(k,_,_,()),⟨h,by omega⟩,aX _ _ ⟨rfl,rfl,trivial⟩ trivial rfl⟩
instance:FN Tryz.prog 158:=⟨⟨_,Tryz.func158,by decide,by simp [Tryz.f158]⟩⟩
set_option maxRecDepth 100000 in
set_option maxHeartbeats 4000000 in
theorem eI.v (l0:List Int) (r:Bool) (h:P.eI.f l0=some r):Fn Tryz.prog 158 [.ints .u32 l0] (.bool r):=by
 refine bO Tryz.func158 rfl (Nat.le_of_ble_eq_true rfl) ?_
 intro X hX
 unfold P.eI.f at h
 refine ae (ab ?_)
 refine o1 ?_
 refine aa (ae (ab ?_))
 iterate 4 refine o1 ?_
 refine og rfl rfl rfl rfl (fun hb=>?_) (fun hb=>?_)
 ·skip
  obtain ⟨c1,h⟩:=tkT h hb
  have g2:=hb
  clear hb
  iterate 4 refine oT ?_
  refine og rfl rfl rfl rfl (fun hb=>?_) (fun hb=>?_)
  ·skip
   obtain ⟨c3,h⟩:=tkF h hb
   have g4:=hb
   clear hb
   obtain ⟨q5,h⟩:=aj h
   obtain ⟨q6,h⟩:=aj h
   iterate 8 refine oT ?_
   iterate 2 refine o1 ?_
   refine aa ?_
   obtain rfl:=Option.some.inj h
   exact aV ⟨.inl rfl,.one (.tmp rt) rfl⟩
  ·skip
   obtain ⟨c7,h⟩:=tkT h hb
   have g8:=hb
   clear hb
   iterate 7 refine opS ?_
   refine oT ?_
   iterate 2 refine o1 ?_
   refine aa ?_
   obtain rfl:=Option.some.inj h
   exact aV ⟨.inl rfl,.one (.tmp rt) rfl⟩
 ·skip
  obtain ⟨c9,h⟩:=tkF h hb
  have g10:=hb
  clear hb
  iterate 4 refine opS ?_
  iterate 7 refine opU ?_
  refine opS ?_
  iterate 2 refine o1 ?_
  refine aa ?_
  obtain rfl:=Option.some.inj h
  exact aV ⟨.inl rfl,.one (.tmp rt) rfl⟩
instance:FN Tryz.prog 162:=⟨⟨_,Tryz.func162,by decide,by simp [Tryz.f162]⟩⟩
set_option maxRecDepth 100000 in
set_option maxHeartbeats 4000000 in
theorem aS.o (k:Nat) (a0:Int) (a1:Int) (r:List Int) (h:P.aS.f k a0 a1=some r):FnO Tryz.prog 162 [.int .u64 a0,.int .i64 a1] (dL 5 .u8 r):=by
 refine qu Tryz.func162 rfl (Nat.le_of_ble_eq_true rfl) rfl ?_
 intro X hX
 unfold P.aS.f at h
 refine ae (ab ?_)
 refine o1 ?_
 refine aa (ae (ab ?_))
 refine cp rfl (mA 5 .u8 (.inr rfl) rfl rfl (ib hX (by decide))) ?_
 refine aa (ae (aK (bK ?_)))
 refine bN (D:=Int×Int×List Int×Unit) (fun d=>⟨look [(0,.int .u64 d.1),(1,.int .i64 d.2.1),(5,.own 5)],look [(5,dL 5 .u8 d.2.2.1)]⟩) (fun K_ d=>P.aS.l0 K_ d.1 d.2.1 d.2.2.1=some r) ?_ _ (_,_,_,()) h (aX _ _ ⟨rfl,rfl,rfl,trivial⟩ ⟨rfl,trivial⟩ rfl)
 intro K1 ih2 d h
 obtain ⟨x0,x1,x5,_⟩:=d
 dsimp only at h ⊢
 cases K1 with
 | zero=>exact absurd h (by simp [P.aS.l0])
 | succ m3 =>
  simp only [P.aS.l0] at h
  refine bj (ae (ae (ab ?_)))
  iterate 3 refine o1 ?_
  refine og rfl rfl rfl rfl (fun hb=>?_) (fun hb=>?_)
  ·skip
   obtain ⟨c4,h⟩:=tkF h hb
   have g5:=hb
   clear hb
   iterate 4 refine oT ?_
   refine o1 ?_
   refine aa ?_
   refine aM rfl (fun hb=>?_) (fun hb=>?_)
   ·skip
    obtain ⟨c6,h⟩:=tkT h hb
    have g7:=hb
    clear hb
    obtain ⟨q8,h⟩:=aj h
    refine aN (aK (ae (ab ?_)))
    iterate 8 refine o1 ?_
    refine aa (ab ?_)
    iterate 3 refine o1 ?_
    refine aa ?_
    exact aP (ih2 m3 (by omega) (_,_,_,()) h) ⟨rfl,rfl,rfl,trivial⟩ ⟨rfl,trivial⟩ rfl
   ·skip
    obtain ⟨c9,h⟩:=tkF h hb
    have g10:=hb
    clear hb
    refine bC (ae (ae (ab ?_)))
    iterate 5 refine o1 ?_
    refine aa (aK (bK ?_))
    refine bN (D:=List Int×Int×Int×Unit) (fun d=>⟨look [(5,.own 5),(6,.int .i64 d.2.1),(7,.int .i64 d.2.2.1)],look [(5,dL 5 .u8 d.1)]⟩) (fun K_ d=>P.aS.l1 K_ d.1 d.2.1 d.2.2.1=some r∧K_≤m3) ?_ _ (_,_,_,()) ⟨h,by omega⟩ (aX _ _ ⟨rfl,rfl,rfl,trivial⟩ ⟨rfl,trivial⟩ rfl)
    intro K11 ih12 d h
    obtain ⟨h,b14⟩:=h
    obtain ⟨x5,x6,x7,_⟩:=d
    dsimp only at h b14 ⊢
    cases K11 with
    | zero=>exact absurd h (by simp [P.aS.l1])
    | succ m13 =>
     simp only [P.aS.l1] at h
     refine bj (ae (ae (ab ?_)))
     iterate 3 refine o1 ?_
     refine aa ?_
     refine aM rfl (fun hb=>?_) (fun hb=>?_)
     ·skip
      obtain ⟨c15,h⟩:=tkT h hb
      have g16:=hb
      clear hb
      obtain ⟨q17,h⟩:=aj h
      obtain ⟨q18,h⟩:=aj h
      obtain ⟨q19,h⟩:=aj h
      obtain ⟨q20,h⟩:=aj h
      refine aN (ae (aK ?_))
      refine zA [m4 [5] [] [35] [],m4 [6] [] [36] [],m4 [5] [] [37] [],m4 [7] [] [38] [],m4 [5] [] [39] [],m4 [7] [] [40] [],m4 [39,40] [5] [41] [],m4 [41] [5] [42] [],m4 [5] [] [43] [],m4 [6] [] [44] [],m4 [43,44] [5] [45] [],m4 [45] [5] [46] [],m4 [35,36] [5] [47] [],m4 [47,42] [5] [] [5],m4 [37,38] [5] [48] [],m4 [48,46] [5] [] [5]] [[],[],[],[],[],[],[4,5],[4,5,6],[],[],[8,9],[8,9,10],[0,1,4,5,6,7,8,9,10,11],[0,1,4,5,6,7,8,9,10,11,12],[0,1,2,3,4,5,6,7,8,9,10,11,12,13],[0,1,2,3,4,5,6,7,8,9,10,11,12,13,14]] ?_
      refine dG [(5,_)] [] [(35,_)] [] ⟨rfl,trivial⟩ trivial (fun S0=>bu rfl rfl ow rfl) ?_
      refine dG [(6,_)] [] [(36,_)] [] ⟨rfl,trivial⟩ trivial (fun S0=>bu rfl rfl ow rfl) ?_
      refine dG [(5,_)] [] [(37,_)] [] ⟨rfl,trivial⟩ trivial (fun S0=>bu rfl rfl ow rfl) ?_
      refine dG [(7,_)] [] [(38,_)] [] ⟨rfl,trivial⟩ trivial (fun S0=>bu rfl rfl ow rfl) ?_
      refine dG [(5,_)] [] [(39,_)] [] ⟨rfl,trivial⟩ trivial (fun S0=>bu rfl rfl ow rfl) ?_
      refine dG [(7,_)] [] [(40,_)] [] ⟨rfl,trivial⟩ trivial (fun S0=>bu rfl rfl ow rfl) ?_
      refine dG [(39,_),(40,_)] [(5,_)] [(41,_)] [] ⟨rfl,rfl,trivial⟩ ⟨rfl,trivial⟩ (fun S0=>bu rfl rfl ow rfl) ?_
      refine dG [(41,_)] [(5,_)] [(42,_)] [] ⟨rfl,trivial⟩ ⟨rfl,trivial⟩ (fun S0=>bu rfl rfl ow rfl) ?_
      refine dG [(5,_)] [] [(43,_)] [] ⟨rfl,trivial⟩ trivial (fun S0=>bu rfl rfl ow rfl) ?_
      refine dG [(6,_)] [] [(44,_)] [] ⟨rfl,trivial⟩ trivial (fun S0=>bu rfl rfl ow rfl) ?_
      refine dG [(43,_),(44,_)] [(5,_)] [(45,_)] [] ⟨rfl,rfl,trivial⟩ ⟨rfl,trivial⟩ (fun S0=>bu rfl rfl ow rfl) ?_
      refine dG [(45,_)] [(5,_)] [(46,_)] [] ⟨rfl,trivial⟩ ⟨rfl,trivial⟩ (fun S0=>bu rfl rfl ow rfl) ?_
      refine dG [(35,_),(36,_)] [(5,_)] [(47,_)] [] ⟨rfl,rfl,trivial⟩ ⟨rfl,trivial⟩ (fun S0=>bu rfl rfl ow rfl) ?_
      refine dG [(47,_),(42,_)] [(5,_)] [] [(5,_)] ⟨rfl,rfl,trivial⟩ ⟨rfl,trivial⟩ (fun S0=>bu rfl rfl ow rfl) ?_
      refine dG [(37,_),(38,_)] [(5,_)] [(48,_)] [] ⟨rfl,rfl,trivial⟩ ⟨rfl,trivial⟩ (fun S0=>bu rfl rfl ow rfl) ?_
      refine dG [(48,_),(46,_)] [(5,_)] [] [(5,_)] ⟨rfl,rfl,trivial⟩ ⟨rfl,trivial⟩ (fun S0=>bu rfl rfl ow rfl) ?_
      refine dn ?_
      refine ab ?_
      iterate 6 refine o1 ?_
      refine aa ?_
      exact aP (ih12 m13 (by omega) (_,_,_,()) ⟨h,by omega⟩) ⟨rfl,rfl,rfl,trivial⟩ ⟨rfl,trivial⟩ rfl
     ·skip
      obtain ⟨c21,h⟩:=tkF h hb
      have g22:=hb
      clear hb
      refine bC (ae (ab ?_))
      iterate 2 refine o1 ?_
      refine aa ?_
      obtain rfl:=Option.some.inj h
      exact aV ⟨.inl rfl,5,by decide,rfl,rfl⟩
  ·skip
   obtain ⟨c23,h⟩:=tkT h hb
   have g24:=hb
   clear hb
   obtain ⟨q25,h⟩:=aj h
   iterate 4 refine opS ?_
   refine o1 ?_
   refine aa ?_
   refine aM rfl (fun hb=>?_) (fun hb=>?_)
   ·skip
    refine aN (aK (ae (ab ?_)))
    iterate 8 refine o1 ?_
    refine aa (ab ?_)
    iterate 3 refine o1 ?_
    refine aa ?_
    exact aP (ih2 m3 (by omega) (_,_,_,()) h) ⟨rfl,rfl,rfl,trivial⟩ ⟨rfl,trivial⟩ rfl
   ·skip
    first | cases hb | (simp_all;done)
theorem aS.v (k:Nat) (a0:Int) (a1:Int) (r:List Int) (h:P.aS.f k a0 a1=some r):Fn Tryz.prog 162 [.int .u64 a0,.int .i64 a1] (.ints .u8 r):= AR (aS.o k a0 a1 r h)
instance:FN Tryz.prog 121:=⟨⟨_,Tryz.func121,by decide,by simp [Tryz.f121]⟩⟩
set_option maxRecDepth 100000 in
set_option maxHeartbeats 4000000 in
theorem bH.v (k:Nat) (l0:List Int) (r:ByteArray×Int) (h:P.bH.f k l0=some r):Fn Tryz.prog 121 [.ints .u32 l0] (.tup [.str r.1,.int .i64 r.2]):=by
 refine bO Tryz.func121 rfl (Nat.le_of_ble_eq_true rfl) ?_
 intro X hX
 unfold P.bH.f at h
 refine ae (ab ?_)
 iterate 2 refine o1 ?_
 refine aa (ae (ae (ab ?_)))
 refine o1 ?_
 obtain ⟨t1,ht2,h⟩:=Option.bind_eq_some_iff.1 h
 refine opC (eI.v _ _ ht2) ?_
 refine o1 ?_
 refine aa ?_
 refine aM rfl (fun hb=>?_) (fun hb=>?_)
 ·skip
  obtain ⟨c3,h⟩:=tkF h hb
  have g4:=hb
  clear hb
  refine ae (ab ?_)
  iterate 2 refine o1 ?_
  refine aa ?_
  obtain rfl:=Option.some.inj h
  exact aV ⟨.inl rfl,.two (.tmp rt) (.tmp rt) rfl rfl⟩
 ·skip
  obtain ⟨c5,h⟩:=tkT h hb
  have g6:=hb
  clear hb
  refine aN (ae (ae (ab ?_)))
  iterate 3 refine o1 ?_
  refine aa ?_
  refine aM rfl (fun hb=>?_) (fun hb=>?_)
  ·skip
   obtain ⟨c7,h⟩:=tkT h hb
   have g8:=hb
   clear hb
   refine ae (ab ?_)
   iterate 2 refine o1 ?_
   refine aa ?_
   obtain rfl:=Option.some.inj h
   exact aV ⟨.inl rfl,.two (.tmp rt) (.tmp rt) rfl rfl⟩
  ·skip
   obtain ⟨c9,h⟩:=tkF h hb
   have g10:=hb
   clear hb
   refine aN (ae (ab ?_))
   refine cp rfl (mA 175 .u64 (.inr rfl) rfl rfl (ib hX (by decide))) ?_
   refine aa (ae (ae (ab ?_)))
   obtain ⟨t11,ht12,h⟩:=Option.bind_eq_some_iff.1 h
   refine opC (bw.v _ _ _ ht12) ?_
   refine o1 ?_
   refine aa (aK (bK ?_))
   refine bN (D:=List Int×List Int×List Int×Unit) (fun d=>⟨look [(0,.ints .u32 d.1),(4,.own 4),(5,.ints .u32 d.2.2.1)],look [(4,dL 175 .u64 d.2.1)]⟩) (fun K_ d=>P.bH.l0 K_ d.1 d.2.1 d.2.2.1=some r) ?_ _ (_,_,_,()) h (aX _ _ ⟨rfl,rfl,rfl,trivial⟩ ⟨rfl,trivial⟩ rfl)
   intro K13 ih14 d h
   obtain ⟨x0,x4,x5,_⟩:=d
   dsimp only at h ⊢
   cases K13 with
   | zero=>exact absurd h (by simp [P.bH.l0])
   | succ m15 =>
    simp only [P.bH.l0] at h
    refine bj (ae (ae (ab ?_)))
    iterate 3 refine o1 ?_
    refine aa ?_
    refine aM rfl (fun hb=>?_) (fun hb=>?_)
    ·skip
     obtain ⟨c16,h⟩:=tkT h hb
     have g17:=hb
     clear hb
     refine aN (aK (ae (ab ?_)))
     iterate 2 refine o1 ?_
     obtain ⟨t18,ht19,h⟩:=Option.bind_eq_some_iff.1 h
     refine opC (aC.v _ _ _ _ ht19) ?_
     iterate 5 refine o1 ?_
     refine aa (ae (ab ?_))
     refine o1 ?_
     obtain ⟨t20,ht21,h⟩:=Option.bind_eq_some_iff.1 h
     refine opC (cT.v _ _ ht21) ?_
     obtain ⟨q22,h⟩:=aj h
     iterate 5 refine o1 ?_
     refine aa (ae (ab ?_))
     iterate 5 refine o1 ?_
     refine aa (ab ?_)
     iterate 2 refine o1 ?_
     refine aa ?_
     exact aP (ih14 m15 (by omega) (_,_,_,()) h) ⟨rfl,rfl,rfl,trivial⟩ ⟨rfl,trivial⟩ rfl
    ·skip
     obtain ⟨c23,h⟩:=tkF h hb
     have g24:=hb
     clear hb
     obtain ⟨q25,h⟩:=aj h
     obtain ⟨q26,h⟩:=aj h
     refine bC (ae (ab ?_))
     iterate 6 refine o1 ?_
     obtain ⟨t27,ht28,h⟩:=Option.bind_eq_some_iff.1 h
     refine opCO (aS.o _ _ _ _ ht28) ?_
     refine o1 ?_
     refine aa (ae (ae (ab ?_)))
     iterate 4 refine o1 ?_
     refine aa (aK (bK ?_))
     refine bN (D:=List Int×List Int×Int×Unit) (fun d=>⟨look [(4,.own 4),(10,.own 45),(11,.int .i64 d.2.2.1)],look [(4,dL 175 .u64 d.1),(45,dL 5 .u8 d.2.1)]⟩) (fun K_ d=>P.bH.l1 K_ d.1 d.2.1 d.2.2.1=some r∧K_≤m15) ?_ _ (_,_,_,()) ⟨h,by omega⟩ (aX _ _ ⟨rfl,rfl,rfl,trivial⟩ ⟨rfl,rfl,trivial⟩ rfl)
     intro K29 ih30 d h
     obtain ⟨h,b32⟩:=h
     obtain ⟨x4,x10,x11,_⟩:=d
     dsimp only at h b32 ⊢
     cases K29 with
     | zero=>exact absurd h (by simp [P.bH.l1])
     | succ m31 =>
      simp only [P.bH.l1] at h
      refine bj (ae (ae (ab ?_)))
      iterate 2 refine o1 ?_
      refine aa ?_
      refine aM rfl (fun hb=>?_) (fun hb=>?_)
      ·skip
       obtain ⟨c33,h⟩:=tkT h hb
       have g34:=hb
       clear hb
       obtain ⟨q35,h⟩:=aj h
       obtain ⟨q36,h⟩:=aj h
       obtain ⟨q37,h⟩:=aj h
       refine aN (ae (aK (ae (ab ?_))))
       iterate 2 refine o1 ?_
       refine aa (ae (ab ?_))
       iterate 5 refine o1 ?_
       obtain ⟨t38,ht39,h⟩:=Option.bind_eq_some_iff.1 h
       refine opC (aS.v _ _ _ _ ht39) ?_
       replace h:=Bo h
       obtain ⟨q40,h⟩:=aj h
       refine o1 ?_
       refine aa ?_
       refine df (cD (k:=53) rfl) ?_
       refine ab ?_
       iterate 4 refine o1 ?_
       refine aa (ab ?_)
       iterate 3 refine o1 ?_
       refine aa ?_
       exact aP (ih30 m31 (by omega) (_,_,_,()) ⟨h,by omega⟩) ⟨rfl,rfl,rfl,trivial⟩ ⟨rfl,rfl,trivial⟩ rfl
      ·skip
       obtain ⟨c41,h⟩:=tkF h hb
       have g42:=hb
       clear hb
       refine bC (ae (ab ?_))
       iterate 4 refine o1 ?_
       refine aa ?_
       obtain rfl:=Option.some.inj h
       exact aV ⟨.inl rfl,.two (.tmp rt) (.tmp rt) rfl rfl⟩
instance:FN Tryz.prog 192:=⟨⟨_,Tryz.func192,by decide,by simp [Tryz.f192]⟩⟩
instance:FN Tryz.prog 141:=⟨⟨_,Tryz.func141,by decide,by simp [Tryz.f141]⟩⟩
set_option maxRecDepth 100000 in
set_option maxHeartbeats 4000000 in
theorem cE.v (k:Nat) (l0:List Int) (l1:List Int) (r:List Int) (h:P.cE.f k l0 l1=some r):Fn Tryz.prog 141 [.ints .u32 l0,.ints .u32 l1] (.ints .u32 r):=by
 refine bO Tryz.func141 rfl (Nat.le_of_ble_eq_true rfl) ?_
 intro X hX
 unfold P.cE.f at h
 refine ae (ab ?_)
 refine o1 ?_
 refine aa (ae (ae (ab ?_)))
 iterate 5 refine o1 ?_
 refine aa ?_
 refine ff (D:=Nat×List Int×List Int×Unit) (fun d=>⟨look [(0,.ints .u32 d.2.1),(1,.ints .u32 d.2.2.1)],look []⟩) (fun d=>P.cE.j0 d.1 d.2.1 d.2.2.1=some r∧d.1≤k) ?_ ?_
 ·skip
  rintro ⟨kq1,x0,x1,_⟩ ⟨h,b2⟩
  dsimp only at h b2 ⊢
  cases kq1 with
  | zero=>exact absurd h (by simp [P.cE.j0])
  | succ m3 =>
   simp only [P.cE.j0] at h
   obtain ⟨q4,h⟩:=aj h
   obtain ⟨q5,h⟩:=aj h
   refine ae (ab ?_)
   iterate 5 refine o1 ?_
   refine aa (ae (ab ?_))
   refine o1 ?_
   refine aa (ae (ae (ab ?_)))
   iterate 3 refine o1 ?_
   refine aa (aK (bK ?_))
   refine bN (D:=List Int×List Int×List Int×Int×List Int×Int×Int×Unit) (fun d=>⟨look [(0,.ints .u32 d.1),(1,.ints .u32 d.2.1),(5,.own 19),(6,.int .u64 d.2.2.2.1),(20,.ints .u32 d.2.2.2.2.1),(21,.int .i64 d.2.2.2.2.2.1),(22,.int .i64 d.2.2.2.2.2.2.1)],look [(19,dL 151 .u32 d.2.2.1)]⟩) (fun K_ d=>P.cE.l0 K_ d.1 d.2.1 d.2.2.1 d.2.2.2.1 d.2.2.2.2.1 d.2.2.2.2.2.1 d.2.2.2.2.2.2.1=some r∧K_≤m3) ?_ _ (_,_,_,_,_,_,_,()) ⟨h,by omega⟩ (aX _ _ ⟨rfl,rfl,rfl,rfl,rfl,rfl,rfl,trivial⟩ ⟨rfl,trivial⟩ rfl)
   intro K6 ih7 d h
   obtain ⟨h,b9⟩:=h
   obtain ⟨x0,x1,x5,x6,x20,x21,x22,_⟩:=d
   dsimp only at h b9 ⊢
   cases K6 with
   | zero=>exact absurd h (by simp [P.cE.l0])
   | succ m8 =>
    simp only [P.cE.l0] at h
    refine bj (ae (ab ?_))
    refine o1 ?_
    refine aa (ae ?_)
    refine aM rfl (fun hb=>?_) (fun hb=>?_)
    ·skip
     obtain ⟨c10,h⟩:=tkT h hb
     have g11:=hb
     clear hb
     obtain ⟨q12,h⟩:=aj h
     obtain ⟨q13,h⟩:=aj h
     refine aN (ae (aK (ae (ab ?_))))
     iterate 5 refine o1 ?_
     refine aa (ae (ab ?_))
     iterate 5 refine o1 ?_
     refine aa (ae (ae (ab ?_)))
     iterate 4 refine o1 ?_
     refine aa ?_
     refine aM rfl (fun hb=>?_) (fun hb=>?_)
     ·skip
      obtain ⟨c14,h⟩:=tkT h hb
      have g15:=hb
      clear hb
      obtain ⟨q16,h⟩:=aj h
      refine ab ?_
      iterate 8 refine o1 ?_
      refine aa (ae (ab ?_))
      iterate 6 refine o1 ?_
      refine aa (ab ?_)
      iterate 3 refine o1 ?_
      refine aa (ab ?_)
      iterate 2 refine o1 ?_
      refine aa ?_
      exact aP (ih7 m8 (by omega) (_,_,_,_,_,_,_,()) ⟨h,by omega⟩) ⟨rfl,rfl,rfl,rfl,rfl,rfl,rfl,trivial⟩ ⟨rfl,trivial⟩ rfl
     ·skip
      obtain ⟨c17,h⟩:=tkF h hb
      have g18:=hb
      clear hb
      obtain ⟨q19,h⟩:=aj h
      refine aN (ae (ab ?_))
      iterate 6 refine o1 ?_
      refine aa (ab ?_)
      iterate 3 refine o1 ?_
      refine aa (ab ?_)
      iterate 2 refine o1 ?_
      refine aa ?_
      exact aP (ih7 m8 (by omega) (_,_,_,_,_,_,_,()) ⟨h,by omega⟩) ⟨rfl,rfl,rfl,rfl,rfl,rfl,rfl,trivial⟩ ⟨rfl,trivial⟩ rfl
    ·skip
     obtain ⟨c20,h⟩:=tkF h hb
     have g21:=hb
     clear hb
     obtain ⟨q22,h⟩:=aj h
     obtain ⟨q23,h⟩:=aj h
     refine bC (ae (ab ?_))
     iterate 7 refine o1 ?_
     refine aa (ae ?_)
     refine df (cD (k:=19) rfl) ?_
     refine ab ?_
     refine o1 ?_
     obtain ⟨t24,ht25,h⟩:=Option.bind_eq_some_iff.1 h
     refine opC (aQ.v _ _ _ ht25) ?_
     refine o1 ?_
     refine aa ?_
     obtain rfl:=Option.some.inj h
     exact aV ⟨.inl rfl,.one (.tmp rt) rfl⟩
 ·skip
  refine aM rfl (fun hb=>?_) (fun hb=>?_)
  ·skip
   obtain ⟨c26,h⟩:=tkT h hb
   have g27:=hb
   clear hb
   refine ab ?_
   iterate 4 refine o1 ?_
   refine aa ?_
   exact ⟨(k,_,_,()),⟨h,by omega⟩,aX _ _ ⟨rfl,rfl,trivial⟩ trivial rfl⟩
  ·skip
   obtain ⟨c28,h⟩:=tkF h hb
   have g29:=hb
   clear hb
   refine aN ?_
   exact ⟨(k,_,_,()),⟨h,by omega⟩,aX _ _ ⟨rfl,rfl,trivial⟩ trivial rfl⟩
instance:FN Tryz.prog 199:=⟨⟨_,Tryz.func199,by decide,by simp [Tryz.f199]⟩⟩
instance:FN Tryz.prog 146:=⟨⟨_,Tryz.func146,by decide,by simp [Tryz.f146]⟩⟩
set_option maxRecDepth 100000 in
set_option maxHeartbeats 4000000 in
theorem ai.v (k:Nat) (l0:List Int) (r:List Int) (h:P.ai.f k l0=some r):Fn Tryz.prog 146 [.ints .i64 l0] (.ints .i64 r):=by
 refine bO Tryz.func146 rfl (Nat.le_of_ble_eq_true rfl) ?_
 intro X hX
 unfold P.ai.f at h
 refine ae (ab ?_)
 refine o1 ?_
 refine aa (ae (ab ?_))
 iterate 3 refine o1 ?_
 refine aa (ae (aK (bK ?_)))
 refine bN (D:=List Int×Int×Unit) (fun d=>⟨look [(0,.ints .i64 d.1),(3,.int .i64 d.2.1)],look []⟩) (fun K_ d=>P.ai.l0 K_ d.1 d.2.1=some r) ?_ _ (_,_,()) h (aX _ _ ⟨rfl,rfl,trivial⟩ trivial rfl)
 intro K1 ih2 d h
 obtain ⟨x0,x3,_⟩:=d
 dsimp only at h ⊢
 cases K1 with
 | zero=>exact absurd h (by simp [P.ai.l0])
 | succ m3 =>
  simp only [P.ai.l0] at h
  refine bj (ae (ae (ab ?_)))
  iterate 3 refine o1 ?_
  refine og rfl rfl rfl rfl (fun hb=>?_) (fun hb=>?_)
  ·skip
   obtain ⟨c4,h⟩:=tkT h hb
   have g5:=hb
   clear hb
   obtain ⟨q6,h⟩:=aj h
   obtain ⟨q7,h⟩:=aj h
   iterate 6 refine oT ?_
   refine o1 ?_
   refine aa ?_
   refine aM rfl (fun hb=>?_) (fun hb=>?_)
   ·skip
    obtain ⟨c8,h⟩:=tkT h hb
    have g9:=hb
    clear hb
    refine aN (aK (ab ?_))
    iterate 3 refine o1 ?_
    refine aa ?_
    exact aP (ih2 m3 (by omega) (_,_,()) h) ⟨rfl,rfl,trivial⟩ trivial rfl
   ·skip
    obtain ⟨c10,h⟩:=tkF h hb
    have g11:=hb
    clear hb
    obtain ⟨q12,h⟩:=aj h
    obtain ⟨q13,h⟩:=aj h
    refine bC (ae (ab ?_))
    iterate 4 refine o1 ?_
    refine aa ?_
    obtain rfl:=Option.some.inj h
    exact aV ⟨.inl rfl,.one (.tmp rt) rfl⟩
  ·skip
   obtain ⟨c14,h⟩:=tkF h hb
   have g15:=hb
   clear hb
   obtain ⟨q16,h⟩:=aj h
   obtain ⟨q17,h⟩:=aj h
   iterate 6 refine opS ?_
   refine o1 ?_
   refine aa ?_
   refine aM rfl (fun hb=>?_) (fun hb=>?_)
   ·skip
    first | cases hb | (simp_all;done)
   ·skip
    refine bC (ae (ab ?_))
    iterate 4 refine o1 ?_
    refine aa ?_
    obtain rfl:=Option.some.inj h
    exact aV ⟨.inl rfl,.one (.tmp rt) rfl⟩
instance:FN Tryz.prog 156:=⟨⟨_,Tryz.func156,by decide,by simp [Tryz.f156]⟩⟩
set_option maxRecDepth 100000 in
set_option maxHeartbeats 4000000 in
theorem aD.v (k:Nat) (l0:List Int) (a1:Int) (r:List Int×Int) (h:P.aD.f k l0 a1=some r):Fn Tryz.prog 156 [.ints .i64 l0,.int .i64 a1] (.tup [.ints .i64 r.1,.int .i64 r.2]):=by
 refine bO Tryz.func156 rfl (Nat.le_of_ble_eq_true rfl) ?_
 intro X hX
 unfold P.aD.f at h
 obtain ⟨q1,h⟩:=aj h
 obtain ⟨q2,h⟩:=aj h
 refine ae (ab ?_)
 iterate 2 refine o1 ?_
 refine aa (ae (ab ?_))
 iterate 4 refine o1 ?_
 refine aa (ae (ab ?_))
 refine o1 ?_
 refine aa (ae (ae (ab ?_)))
 iterate 4 refine o1 ?_
 refine aa (aK (bK ?_))
 refine bN (D:=List Int×Int×List Int×Int×Int×Unit) (fun d=>⟨look [(0,.ints .i64 d.1),(1,.int .i64 d.2.1),(6,.own 11),(7,.int .i64 d.2.2.2.1),(8,.int .i64 d.2.2.2.2.1)],look [(11,dL 3 .i64 d.2.2.1)]⟩) (fun K_ d=>P.aD.l0 K_ d.1 d.2.1 d.2.2.1 d.2.2.2.1 d.2.2.2.2.1=some r) ?_ _ (_,_,_,_,_,()) h (aX _ _ ⟨rfl,rfl,rfl,rfl,rfl,trivial⟩ ⟨rfl,trivial⟩ rfl)
 intro K3 ih4 d h
 obtain ⟨x0,x1,x6,x7,x8,_⟩:=d
 dsimp only at h ⊢
 cases K3 with
 | zero=>exact absurd h (by simp [P.aD.l0])
 | succ m5 =>
  simp only [P.aD.l0] at h
  refine bj (ae (ae (ab ?_)))
  iterate 2 refine o1 ?_
  refine aa ?_
  refine aM rfl (fun hb=>?_) (fun hb=>?_)
  ·skip
   obtain ⟨c6,h⟩:=tkT h hb
   have g7:=hb
   clear hb
   obtain ⟨q8,h⟩:=aj h
   obtain ⟨q9,h⟩:=aj h
   obtain ⟨q10,h⟩:=fj h
   obtain ⟨q11,h⟩:=aj h
   refine aN (ae (aK (ae (ab ?_))))
   iterate 8 refine o1 ?_
   refine aa (ae (ab ?_))
   iterate 7 refine o1 ?_
   refine aa (ab ?_)
   iterate 4 refine o1 ?_
   refine aa (ab ?_)
   iterate 3 refine o1 ?_
   refine aa ?_
   exact aP (ih4 m5 (by omega) (_,_,_,_,_,()) h) ⟨rfl,rfl,rfl,rfl,rfl,trivial⟩ ⟨rfl,trivial⟩ rfl
  ·skip
   obtain ⟨c12,h⟩:=tkF h hb
   have g13:=hb
   clear hb
   refine bC (ae ?_)
   refine df (cD (k:=11) rfl) ?_
   refine ab ?_
   refine o1 ?_
   obtain ⟨t14,ht15,h⟩:=Option.bind_eq_some_iff.1 h
   refine opC (ai.v _ _ _ ht15) ?_
   iterate 3 refine o1 ?_
   refine aa ?_
   obtain rfl:=Option.some.inj h
   exact aV ⟨.inl rfl,.two (.tmp rt) (.tmp rt) rfl rfl⟩
instance:FN Tryz.prog 118:=⟨⟨_,Tryz.func118,by decide,by simp [Tryz.f118]⟩⟩
set_option maxRecDepth 100000 in
set_option maxHeartbeats 4000000 in
theorem aI.v (k:Nat) (l0:List Int) (r:List Int) (h:P.aI.f k l0=some r):Fn Tryz.prog 118 [.ints .i64 l0] (.ints .u32 r):=by
 refine bO Tryz.func118 rfl (Nat.le_of_ble_eq_true rfl) ?_
 intro X hX
 unfold P.aI.f at h
 refine ae (ab ?_)
 refine o1 ?_
 refine aa (ae (ab ?_))
 refine cp rfl (mA 3 .i64 (.inr rfl) rfl rfl (ib hX (by decide))) ?_
 refine aa (ae (aK (bK ?_)))
 refine bN (D:=List Int×List Int×Unit) (fun d=>⟨look [(0,.ints .i64 d.1),(3,.own 3)],look [(3,dL 3 .i64 d.2.1)]⟩) (fun K_ d=>P.aI.l0 K_ d.1 d.2.1=some r) ?_ _ (_,_,()) h (aX _ _ ⟨rfl,rfl,trivial⟩ ⟨rfl,trivial⟩ rfl)
 intro K1 ih2 d h
 obtain ⟨x0,x3,_⟩:=d
 dsimp only at h ⊢
 cases K1 with
 | zero=>exact absurd h (by simp [P.aI.l0])
 | succ m3 =>
  simp only [P.aI.l0] at h
  refine bj (ae (ae (ab ?_)))
  iterate 3 refine o1 ?_
  refine aa ?_
  refine aM rfl (fun hb=>?_) (fun hb=>?_)
  ·skip
   obtain ⟨c4,h⟩:=tkT h hb
   have g5:=hb
   clear hb
   refine aN (aK (ae (ab ?_)))
   refine o1 ?_
   obtain ⟨t6,ht7,h⟩:=Option.bind_eq_some_iff.1 h
   refine opC (aD.v _ _ _ _ ht7) ?_
   obtain ⟨q8,h⟩:=aj h
   iterate 5 refine o1 ?_
   refine aa (ae (ab ?_))
   iterate 5 refine o1 ?_
   refine aa (ab ?_)
   iterate 2 refine o1 ?_
   refine aa ?_
   exact aP (ih2 m3 (by omega) (_,_,()) h) ⟨rfl,rfl,trivial⟩ ⟨rfl,trivial⟩ rfl
  ·skip
   obtain ⟨c9,h⟩:=tkF h hb
   have g10:=hb
   clear hb
   refine bC (ae (ab ?_))
   refine cp rfl (mA 151 .u32 (.inr rfl) rfl rfl (ib hX (by decide))) ?_
   refine aa (ae (ae (ab ?_)))
   refine o1 ?_
   refine aa (aK (bK ?_))
   refine bN (D:=List Int×List Int×Int×Unit) (fun d=>⟨look [(3,.own 3),(6,.own 6),(7,.int .i64 d.2.2.1)],look [(3,dL 3 .i64 d.1),(6,dL 151 .u32 d.2.1)]⟩) (fun K_ d=>P.aI.l1 K_ d.1 d.2.1 d.2.2.1=some r∧K_≤m3) ?_ _ (_,_,_,()) ⟨h,by omega⟩ (aX _ _ ⟨rfl,rfl,rfl,trivial⟩ ⟨rfl,rfl,trivial⟩ rfl)
   intro K11 ih12 d h
   obtain ⟨h,b14⟩:=h
   obtain ⟨x3,x6,x7,_⟩:=d
   dsimp only at h b14 ⊢
   cases K11 with
   | zero=>exact absurd h (by simp [P.aI.l1])
   | succ m13 =>
    simp only [P.aI.l1] at h
    refine bj (ae (ae (ab ?_)))
    iterate 4 refine o1 ?_
    refine aa ?_
    refine aM rfl (fun hb=>?_) (fun hb=>?_)
    ·skip
     obtain ⟨c15,h⟩:=tkT h hb
     have g16:=hb
     clear hb
     obtain ⟨q17,h⟩:=aj h
     refine aN (ae (aK (ae (ab ?_))))
     iterate 6 refine o1 ?_
     refine aa (ae (ae (ab ?_)))
     iterate 5 refine o1 ?_
     refine aa ?_
     refine aM rfl (fun hb=>?_) (fun hb=>?_)
     ·skip
      obtain ⟨c18,h⟩:=tkT h hb
      have g19:=hb
      clear hb
      obtain ⟨q20,h⟩:=aj h
      obtain ⟨q21,h⟩:=aj h
      refine ab ?_
      iterate 10 refine o1 ?_
      refine aa (ab ?_)
      iterate 5 refine o1 ?_
      refine aa (ab ?_)
      iterate 3 refine o1 ?_
      refine aa ?_
      exact aP (ih12 m13 (by omega) (_,_,_,()) ⟨h,by omega⟩) ⟨rfl,rfl,rfl,trivial⟩ ⟨rfl,rfl,trivial⟩ rfl
     ·skip
      obtain ⟨c22,h⟩:=tkF h hb
      have g23:=hb
      clear hb
      obtain ⟨q24,h⟩:=aj h
      refine aN (ab ?_)
      iterate 5 refine o1 ?_
      refine aa (ab ?_)
      iterate 3 refine o1 ?_
      refine aa ?_
      exact aP (ih12 m13 (by omega) (_,_,_,()) ⟨h,by omega⟩) ⟨rfl,rfl,rfl,trivial⟩ ⟨rfl,rfl,trivial⟩ rfl
    ·skip
     obtain ⟨c25,h⟩:=tkF h hb
     have g26:=hb
     clear hb
     refine bC (ae (ab ?_))
     iterate 2 refine o1 ?_
     refine aa ?_
     refine df (cD (k:=6) rfl) ?_
     obtain rfl:=Option.some.inj h
     exact aV ⟨.inl rfl,.one (.tmp rt) rfl⟩
instance:FN Tryz.prog 134:=⟨⟨_,Tryz.func134,by decide,by simp [Tryz.f134]⟩⟩
set_option maxRecDepth 100000 in
set_option maxHeartbeats 4000000 in
theorem ah.v (k:Nat) (l0:List Int) (a1:Int) (a2:Int) (r:List Int) (h:P.ah.f k l0 a1 a2=some r):Fn Tryz.prog 134 [.ints .i64 l0,.int .i64 a1,.int .i64 a2] (.ints .i64 r):=by
 refine bO Tryz.func134 rfl (Nat.le_of_ble_eq_true rfl) ?_
 intro X hX
 unfold P.ah.f at h
 obtain ⟨q1,h⟩:=aj h
 obtain ⟨q2,h⟩:=aj h
 refine ae (ab ?_)
 refine o1 ?_
 refine aa (ae (ab ?_))
 iterate 5 refine o1 ?_
 refine aa (ae (ae (ab ?_)))
 iterate 3 refine o1 ?_
 refine aa (aK (bK ?_))
 refine bN (D:=Int×Int×List Int×List Int×Int×Int×Unit) (fun d=>⟨look [(1,.int .i64 d.1),(2,.int .i64 d.2.1),(7,.own 13),(14,.ints .i64 d.2.2.2.1),(15,.int .i64 d.2.2.2.2.1),(16,.int .i64 d.2.2.2.2.2.1)],look [(13,dL 3 .i64 d.2.2.1)]⟩) (fun K_ d=>P.ah.l0 K_ d.1 d.2.1 d.2.2.1 d.2.2.2.1 d.2.2.2.2.1 d.2.2.2.2.2.1=some r) ?_ _ (_,_,_,_,_,_,()) h (aX _ _ ⟨rfl,rfl,rfl,rfl,rfl,rfl,trivial⟩ ⟨rfl,trivial⟩ rfl)
 intro K3 ih4 d h
 obtain ⟨x1,x2,x7,x14,x15,x16,_⟩:=d
 dsimp only at h ⊢
 cases K3 with
 | zero=>exact absurd h (by simp [P.ah.l0])
 | succ m5 =>
  simp only [P.ah.l0] at h
  refine bj (ae (ab ?_))
  refine o1 ?_
  refine aa (ae ?_)
  refine aM rfl (fun hb=>?_) (fun hb=>?_)
  ·skip
   obtain ⟨c6,h⟩:=tkT h hb
   have g7:=hb
   clear hb
   obtain ⟨q8,h⟩:=aj h
   obtain ⟨q9,h⟩:=aj h
   obtain ⟨q10,h⟩:=aj h
   refine aN (ae (aK (ae (ab ?_))))
   iterate 3 refine o1 ?_
   refine aa (ae (ab ?_))
   iterate 6 refine o1 ?_
   refine aa (ae (ab ?_))
   iterate 6 refine o1 ?_
   refine aa (ab ?_)
   iterate 3 refine o1 ?_
   refine aa (ab ?_)
   iterate 2 refine o1 ?_
   refine aa ?_
   exact aP (ih4 m5 (by omega) (_,_,_,_,_,_,()) h) ⟨rfl,rfl,rfl,rfl,rfl,rfl,trivial⟩ ⟨rfl,trivial⟩ rfl
  ·skip
   obtain ⟨c11,h⟩:=tkF h hb
   have g12:=hb
   clear hb
   refine bC (ae (aK (bK ?_)))
   refine bN (D:=Int×List Int×Unit) (fun d=>⟨look [(2,.int .i64 d.1),(7,.own 13)],look [(13,dL 3 .i64 d.2.1)]⟩) (fun K_ d=>P.ah.l1 K_ d.1 d.2.1=some r∧K_≤m5) ?_ _ (_,_,()) ⟨h,by omega⟩ (aX _ _ ⟨rfl,rfl,trivial⟩ ⟨rfl,trivial⟩ rfl)
   intro K13 ih14 d h
   obtain ⟨h,b16⟩:=h
   obtain ⟨x2,x7,_⟩:=d
   dsimp only at h b16 ⊢
   cases K13 with
   | zero=>exact absurd h (by simp [P.ah.l1])
   | succ m15 =>
    simp only [P.ah.l1] at h
    refine bj (ae (ae (ab ?_)))
    iterate 2 refine o1 ?_
    refine aa ?_
    refine aM rfl (fun hb=>?_) (fun hb=>?_)
    ·skip
     obtain ⟨c17,h⟩:=tkT h hb
     have g18:=hb
     clear hb
     obtain ⟨q19,h⟩:=aj h
     refine aN (aK (ae (ab ?_)))
     iterate 6 refine o1 ?_
     refine aa (ab ?_)
     iterate 3 refine o1 ?_
     refine aa ?_
     exact aP (ih14 m15 (by omega) (_,_,()) ⟨h,by omega⟩) ⟨rfl,rfl,trivial⟩ ⟨rfl,trivial⟩ rfl
    ·skip
     obtain ⟨c20,h⟩:=tkF h hb
     have g21:=hb
     clear hb
     refine bC (ae ?_)
     refine df (cD (k:=13) rfl) ?_
     refine ab ?_
     refine o1 ?_
     obtain ⟨t22,ht23,h⟩:=Option.bind_eq_some_iff.1 h
     refine opC (ai.v _ _ _ ht23) ?_
     refine o1 ?_
     refine aa ?_
     obtain rfl:=Option.some.inj h
     exact aV ⟨.inl rfl,.one (.tmp rt) rfl⟩
instance:FN Tryz.prog 98:=⟨⟨_,Tryz.func98,by decide,by simp [Tryz.f98]⟩⟩
set_option maxRecDepth 100000 in
set_option maxHeartbeats 4000000 in
theorem an.v (k:Nat) (l0:List Int) (l1:List Int) (r:Int) (h:P.an.f k l0 l1=some r):Fn Tryz.prog 98 [.ints .i64 l0,.ints .i64 l1] (.int .i64 r):=by
 refine bO Tryz.func98 rfl (Nat.le_of_ble_eq_true rfl) ?_
 intro X hX
 unfold P.an.f at h
 refine ae (ab ?_)
 refine o1 ?_
 refine aa (ae (ae (ab ?_)))
 iterate 5 refine o1 ?_
 refine aa ?_
 refine aM rfl (fun hb=>?_) (fun hb=>?_)
 ·skip
  obtain ⟨c1,h⟩:=tkF h hb
  have g2:=hb
  clear hb
  refine ae (ae (ab ?_))
  iterate 5 refine o1 ?_
  refine aa ?_
  refine aM rfl (fun hb=>?_) (fun hb=>?_)
  ·skip
   obtain ⟨c3,h⟩:=tkT h hb
   have g4:=hb
   clear hb
   refine ae (ab ?_)
   refine o1 ?_
   refine aa ?_
   obtain rfl:=Option.some.inj h
   exact aV ⟨.inl rfl,.one (.tmp rt) rfl⟩
  ·skip
   obtain ⟨c5,h⟩:=tkF h hb
   have g6:=hb
   clear hb
   refine aN (ae (ab ?_))
   refine o1 ?_
   refine aa ?_
   obtain rfl:=Option.some.inj h
   exact aV ⟨.inl rfl,.one (.tmp rt) rfl⟩
 ·skip
  obtain ⟨c7,h⟩:=tkT h hb
  have g8:=hb
  clear hb
  refine aN (ae (ae (ab ?_)))
  iterate 4 refine o1 ?_
  refine aa (aK (bK ?_))
  refine bN (D:=List Int×List Int×Int×Unit) (fun d=>⟨look [(0,.ints .i64 d.1),(1,.ints .i64 d.2.1),(5,.int .i64 d.2.2.1)],look []⟩) (fun K_ d=>P.an.l0 K_ d.1 d.2.1 d.2.2.1=some r) ?_ _ (_,_,_,()) h (aX _ _ ⟨rfl,rfl,rfl,trivial⟩ trivial rfl)
  intro K9 ih10 d h
  obtain ⟨x0,x1,x5,_⟩:=d
  dsimp only at h ⊢
  cases K9 with
  | zero=>exact absurd h (by simp [P.an.l0])
  | succ m11 =>
   simp only [P.an.l0] at h
   refine bj (ae (ae (ab ?_)))
   iterate 2 refine o1 ?_
   refine aa ?_
   refine aM rfl (fun hb=>?_) (fun hb=>?_)
   ·skip
    obtain ⟨c12,h⟩:=tkT h hb
    have g13:=hb
    clear hb
    obtain ⟨q14,h⟩:=aj h
    obtain ⟨q15,h⟩:=aj h
    obtain ⟨q16,h⟩:=aj h
    refine aN (ae (aK (ae (ef ?_))))
    iterate 9 refine s1 ?_
    refine jq ?_
    refine aM rfl (fun hb=>?_) (fun hb=>?_)
    ·skip
     obtain ⟨c17,h⟩:=tkF h hb
     have g18:=hb
     clear hb
     refine ae (ae (ef ?_))
     iterate 9 refine s1 ?_
     refine jq ?_
     refine aM rfl (fun hb=>?_) (fun hb=>?_)
     ·skip
      obtain ⟨c19,h⟩:=tkT h hb
      have g20:=hb
      clear hb
      refine ae (ab ?_)
      refine o1 ?_
      refine aa ?_
      obtain rfl:=Option.some.inj h
      exact aV ⟨.inl rfl,.one (.tmp rt) rfl⟩
     ·skip
      obtain ⟨c21,h⟩:=tkF h hb
      have g22:=hb
      clear hb
      refine aN (ae (ab ?_))
      refine o1 ?_
      refine aa ?_
      obtain rfl:=Option.some.inj h
      exact aV ⟨.inl rfl,.one (.tmp rt) rfl⟩
    ·skip
     obtain ⟨c23,h⟩:=tkT h hb
     have g24:=hb
     clear hb
     refine aN (ab ?_)
     iterate 3 refine o1 ?_
     refine aa ?_
     exact aP (ih10 m11 (by omega) (_,_,_,()) h) ⟨rfl,rfl,rfl,trivial⟩ trivial rfl
   ·skip
    obtain ⟨c25,h⟩:=tkF h hb
    have g26:=hb
    clear hb
    refine bC (ae (ab ?_))
    refine o1 ?_
    refine aa ?_
    obtain rfl:=Option.some.inj h
    exact aV ⟨.inl rfl,.one (.tmp rt) rfl⟩
instance:FN Tryz.prog 132:=⟨⟨_,Tryz.func132,by decide,by simp [Tryz.f132]⟩⟩
set_option maxRecDepth 100000 in
set_option maxHeartbeats 4000000 in
theorem bB.v (l0:List Int) (r:Bool) (h:P.bB.f l0=some r):Fn Tryz.prog 132 [.ints .u32 l0] (.bool r):=by
 refine bO Tryz.func132 rfl (Nat.le_of_ble_eq_true rfl) ?_
 intro X hX
 unfold P.bB.f at h
 refine ae (ab ?_)
 refine o1 ?_
 refine aa (ae (ab ?_))
 iterate 4 refine o1 ?_
 refine og rfl rfl rfl rfl (fun hb=>?_) (fun hb=>?_)
 ·skip
  obtain ⟨c1,h⟩:=tkT h hb
  have g2:=hb
  clear hb
  iterate 4 refine oT ?_
  refine og rfl rfl rfl rfl (fun hb=>?_) (fun hb=>?_)
  ·skip
   obtain ⟨c3,h⟩:=tkF h hb
   have g4:=hb
   clear hb
   obtain ⟨q5,h⟩:=aj h
   obtain ⟨q6,h⟩:=aj h
   iterate 8 refine oT ?_
   iterate 2 refine o1 ?_
   refine aa ?_
   obtain rfl:=Option.some.inj h
   exact aV ⟨.inl rfl,.one (.tmp rt) rfl⟩
  ·skip
   obtain ⟨c7,h⟩:=tkT h hb
   have g8:=hb
   clear hb
   iterate 7 refine opS ?_
   refine oT ?_
   iterate 2 refine o1 ?_
   refine aa ?_
   obtain rfl:=Option.some.inj h
   exact aV ⟨.inl rfl,.one (.tmp rt) rfl⟩
 ·skip
  obtain ⟨c9,h⟩:=tkF h hb
  have g10:=hb
  clear hb
  iterate 4 refine opS ?_
  iterate 7 refine opU ?_
  refine opS ?_
  iterate 2 refine o1 ?_
  refine aa ?_
  obtain rfl:=Option.some.inj h
  exact aV ⟨.inl rfl,.one (.tmp rt) rfl⟩
instance:FN Tryz.prog 119:=⟨⟨_,Tryz.func119,by decide,by simp [Tryz.f119]⟩⟩
set_option maxRecDepth 100000 in
set_option maxHeartbeats 4000000 in
theorem az.v (k:Nat) (a0:Int) (r:List Int) (h:P.az.f k a0=some r):Fn Tryz.prog 119 [.int .i64 a0] (.ints .i64 r):=by
 refine bO Tryz.func119 rfl (Nat.le_of_ble_eq_true rfl) ?_
 intro X hX
 unfold P.az.f at h
 refine ae (ab ?_)
 refine o1 ?_
 refine aa (ae (ab ?_))
 refine cp rfl (za rfl rfl rfl (ib hX (by decide))) ?_
 refine o1 ?_
 refine aa (ae (aK (bK ?_)))
 refine bN (D:=Int×List Int×Unit) (fun d=>⟨look [(0,.int .i64 d.1),(3,.own 4)],look [(4,dL 3 .i64 d.2.1)]⟩) (fun K_ d=>P.az.l0 K_ d.1 d.2.1=some r) ?_ _ (_,_,()) h (aX _ _ ⟨rfl,rfl,trivial⟩ ⟨rfl,trivial⟩ rfl)
 intro K1 ih2 d h
 obtain ⟨x0,x3,_⟩:=d
 dsimp only at h ⊢
 cases K1 with
 | zero=>exact absurd h (by simp [P.az.l0])
 | succ m3 =>
  simp only [P.az.l0] at h
  refine bj (ae (ae (ab ?_)))
  iterate 2 refine o1 ?_
  refine aa ?_
  refine aM rfl (fun hb=>?_) (fun hb=>?_)
  ·skip
   obtain ⟨c4,h⟩:=tkT h hb
   have g5:=hb
   clear hb
   obtain ⟨q6,h⟩:=aj h
   refine aN (aK (ae (ab ?_)))
   iterate 6 refine o1 ?_
   refine aa (ab ?_)
   iterate 3 refine o1 ?_
   refine aa ?_
   exact aP (ih2 m3 (by omega) (_,_,()) h) ⟨rfl,rfl,trivial⟩ ⟨rfl,trivial⟩ rfl
  ·skip
   obtain ⟨c7,h⟩:=tkF h hb
   have g8:=hb
   clear hb
   refine bC (ae (ab ?_))
   iterate 2 refine o1 ?_
   refine aa ?_
   refine df (cD (k:=4) rfl) ?_
   obtain rfl:=Option.some.inj h
   exact aV ⟨.inl rfl,.one (.tmp rt) rfl⟩
instance:FN Tryz.prog 148:=⟨⟨_,Tryz.func148,by decide,by simp [Tryz.f148]⟩⟩
set_option maxRecDepth 100000 in
set_option maxHeartbeats 4000000 in
theorem cw.o (l0:List Int) (r:List Int) (h:P.cw.f l0=some r):FnO Tryz.prog 148 [.ints .i64 l0] (dL 3 .i64 r):=by
 unfold P.cw.f at h
 replace h:=Bo h
 obtain ⟨q1,h⟩:=aj h
 obtain rfl:=Option.some.inj h
 refine qu Tryz.func148 rfl (Nat.le_of_ble_eq_true rfl) rfl ?_
 intro X hX
 refine ae (ab (o1 (aa ?_)))
 refine ae (ae (ab (o1 (op_isnil rfl rfl UL.h rfl (ib hX (by decide)) (fun b hb=>aa (aM rfl (fun h1=>?_) (fun h1=>?_)))))))
 ·obtain rfl:l0=[]:=List.eq_nil_of_length_eq_zero (hb h1).1
  refine ae (ab ?_)
  refine cp rfl (mA 3 .i64 (.inr rfl) rfl rfl (ib hX (by decide))) ?_
  refine aa (aV ⟨.inl rfl,2,by decide,rfl,rfl⟩)
 ·refine aN (ae (ab ?_))
  refine cp rfl (za rfl rfl rfl (ib hX (by decide))) ?_
  refine o1 ?_
  refine cp rfl (wP rfl rfl rfl rfl UL.h IF.h rfl rfl rfl rfl bl bl (by decide) (ib hX (by decide))) ?_
  refine o1 ?_
  refine aa (aV ⟨.inl rfl,5,by decide,rfl,rfl⟩)
instance:FN Tryz.prog 99:=⟨⟨_,Tryz.func99,by decide,by simp [Tryz.f99]⟩⟩
set_option maxRecDepth 100000 in
set_option maxHeartbeats 4000000 in
theorem aG.v (k:Nat) (l0:List Int) (l1:List Int) (r:List Int) (h:P.aG.f k l0 l1=some r):Fn Tryz.prog 99 [.ints .i64 l0,.ints .i64 l1] (.ints .i64 r):=by
 refine bO Tryz.func99 rfl (Nat.le_of_ble_eq_true rfl) ?_
 intro X hX
 unfold P.aG.f at h
 refine ae (ab ?_)
 refine o1 ?_
 refine aa (ae (ab ?_))
 refine o1 ?_
 obtain ⟨t1,ht2,h⟩:=Option.bind_eq_some_iff.1 h
 refine opCO (cw.o _ _ ht2) ?_
 refine o1 ?_
 refine aa (ae (ab ?_))
 refine o1 ?_
 refine aa (ae (ae (ab ?_)))
 iterate 3 refine o1 ?_
 refine aa (aK (bK ?_))
 refine bN (D:=List Int×List Int×Int×Int×Int×Unit) (fun d=>⟨look [(1,.ints .i64 d.1),(5,.own 10),(6,.int .i64 d.2.2.1),(12,.int .i64 d.2.2.2.1),(13,.int .i64 d.2.2.2.2.1)],look [(10,dL 3 .i64 d.2.1)]⟩) (fun K_ d=>P.aG.l0 K_ d.1 d.2.1 d.2.2.1 d.2.2.2.1 d.2.2.2.2.1=some r) ?_ _ (_,_,_,_,_,()) h (aX _ _ ⟨rfl,rfl,rfl,rfl,rfl,trivial⟩ ⟨rfl,trivial⟩ rfl)
 intro K3 ih4 d h
 obtain ⟨x1,x5,x6,x12,x13,_⟩:=d
 dsimp only at h ⊢
 cases K3 with
 | zero=>exact absurd h (by simp [P.aG.l0])
 | succ m5 =>
  simp only [P.aG.l0] at h
  refine bj (ae (ab ?_))
  refine o1 ?_
  refine aa (ae ?_)
  refine aM rfl (fun hb=>?_) (fun hb=>?_)
  ·skip
   obtain ⟨c6,h⟩:=tkT h hb
   have g7:=hb
   clear hb
   obtain ⟨q8,h⟩:=aj h
   obtain ⟨q9,h⟩:=aj h
   refine aN (ae (aK (ae (ab ?_))))
   iterate 2 refine o1 ?_
   refine aa (ae (ab ?_))
   iterate 7 refine o1 ?_
   refine aa (ae (ae (ab ?_)))
   iterate 4 refine o1 ?_
   refine aa ?_
   refine aM rfl (fun hb=>?_) (fun hb=>?_)
   ·skip
    obtain ⟨c10,h⟩:=tkT h hb
    have g11:=hb
    clear hb
    refine ab ?_
    iterate 7 refine o1 ?_
    refine aa (ae (ab ?_))
    refine o1 ?_
    refine aa (ae (ae (ab ?_)))
    iterate 2 refine o1 ?_
    refine aa ?_
    refine aM rfl (fun hb=>?_) (fun hb=>?_)
    ·skip
     obtain ⟨c12,h⟩:=tkT h hb
     have g13:=hb
     clear hb
     refine ae (ab ?_)
     iterate 3 refine o1 ?_
     refine aa (ab ?_)
     refine o1 ?_
     refine aa (ab ?_)
     iterate 5 refine o1 ?_
     refine aa (ab ?_)
     iterate 2 refine o1 ?_
     refine aa ?_
     exact aP (ih4 m5 (by omega) (_,_,_,_,_,()) h) ⟨rfl,rfl,rfl,rfl,rfl,trivial⟩ ⟨rfl,trivial⟩ rfl
    ·skip
     obtain ⟨c14,h⟩:=tkF h hb
     have g15:=hb
     clear hb
     refine aN (ab ?_)
     iterate 5 refine o1 ?_
     refine aa (ab ?_)
     iterate 2 refine o1 ?_
     refine aa ?_
     exact aP (ih4 m5 (by omega) (_,_,_,_,_,()) h) ⟨rfl,rfl,rfl,rfl,rfl,trivial⟩ ⟨rfl,trivial⟩ rfl
   ·skip
    obtain ⟨c16,h⟩:=tkF h hb
    have g17:=hb
    clear hb
    refine aN (ae (ab ?_))
    refine o1 ?_
    refine aa (ae (ae (ab ?_)))
    iterate 2 refine o1 ?_
    refine aa ?_
    refine aM rfl (fun hb=>?_) (fun hb=>?_)
    ·skip
     obtain ⟨c18,h⟩:=tkT h hb
     have g19:=hb
     clear hb
     refine ae (ab ?_)
     iterate 3 refine o1 ?_
     refine aa (ab ?_)
     refine o1 ?_
     refine aa (ab ?_)
     iterate 5 refine o1 ?_
     refine aa (ab ?_)
     iterate 2 refine o1 ?_
     refine aa ?_
     exact aP (ih4 m5 (by omega) (_,_,_,_,_,()) h) ⟨rfl,rfl,rfl,rfl,rfl,trivial⟩ ⟨rfl,trivial⟩ rfl
    ·skip
     obtain ⟨c20,h⟩:=tkF h hb
     have g21:=hb
     clear hb
     refine aN (ab ?_)
     iterate 5 refine o1 ?_
     refine aa (ab ?_)
     iterate 2 refine o1 ?_
     refine aa ?_
     exact aP (ih4 m5 (by omega) (_,_,_,_,_,()) h) ⟨rfl,rfl,rfl,rfl,rfl,trivial⟩ ⟨rfl,trivial⟩ rfl
  ·skip
   obtain ⟨c22,h⟩:=tkF h hb
   have g23:=hb
   clear hb
   refine bC (ae ?_)
   refine df (cD (k:=10) rfl) ?_
   refine ab ?_
   refine o1 ?_
   obtain ⟨t24,ht25,h⟩:=Option.bind_eq_some_iff.1 h
   refine opC (ai.v _ _ _ ht25) ?_
   refine o1 ?_
   refine aa ?_
   obtain rfl:=Option.some.inj h
   exact aV ⟨.inl rfl,.one (.tmp rt) rfl⟩
instance:FN Tryz.prog 168:=⟨⟨_,Tryz.func168,by decide,by simp [Tryz.f168]⟩⟩
set_option maxRecDepth 100000 in
set_option maxHeartbeats 4000000 in
theorem au.v (k:Nat) (l0:List Int) (r:Int×Bool) (h:P.au.f k l0=some r):Fn Tryz.prog 168 [.ints .i64 l0] (.tup [.int .i64 r.1,.bool r.2]):=by
 refine bO Tryz.func168 rfl (Nat.le_of_ble_eq_true rfl) ?_
 intro X hX
 unfold P.au.f at h
 refine ae (ab ?_)
 iterate 2 refine o1 ?_
 refine aa (ae (ae (ab ?_)))
 iterate 3 refine o1 ?_
 refine aa ?_
 refine aM rfl (fun hb=>?_) (fun hb=>?_)
 ·skip
  obtain ⟨c1,h⟩:=tkT h hb
  have g2:=hb
  clear hb
  refine ae (ab ?_)
  iterate 2 refine o1 ?_
  refine aa ?_
  obtain rfl:=Option.some.inj h
  exact aV ⟨.inl rfl,.two (.tmp rt) (.tmp rt) rfl rfl⟩
 ·skip
  obtain ⟨c3,h⟩:=tkF h hb
  have g4:=hb
  clear hb
  refine aN (ae (ab ?_))
  refine o1 ?_
  refine aa (ae (ae (ab ?_)))
  iterate 4 refine o1 ?_
  refine aa (aK (bK ?_))
  refine bN (D:=List Int×Int×Int×Unit) (fun d=>⟨look [(0,.ints .i64 d.1),(4,.int .i64 d.2.1),(5,.int .i64 d.2.2.1)],look []⟩) (fun K_ d=>P.au.l0 K_ d.1 d.2.1 d.2.2.1=some r) ?_ _ (_,_,_,()) h (aX _ _ ⟨rfl,rfl,rfl,trivial⟩ trivial rfl)
  intro K5 ih6 d h
  obtain ⟨x0,x4,x5,_⟩:=d
  dsimp only at h ⊢
  cases K5 with
  | zero=>exact absurd h (by simp [P.au.l0])
  | succ m7 =>
   simp only [P.au.l0] at h
   refine bj (ae (ae (ab ?_)))
   iterate 2 refine o1 ?_
   refine aa ?_
   refine aM rfl (fun hb=>?_) (fun hb=>?_)
   ·skip
    obtain ⟨c8,h⟩:=tkT h hb
    have g9:=hb
    clear hb
    obtain ⟨q10,h⟩:=aj h
    obtain ⟨q11,h⟩:=aj h
    refine aN (ae (aK (ab ?_)))
    iterate 8 refine o1 ?_
    refine aa (ab ?_)
    iterate 3 refine o1 ?_
    refine aa ?_
    exact aP (ih6 m7 (by omega) (_,_,_,()) h) ⟨rfl,rfl,rfl,trivial⟩ trivial rfl
   ·skip
    obtain ⟨c12,h⟩:=tkF h hb
    have g13:=hb
    clear hb
    refine bC (ae (ab ?_))
    iterate 3 refine o1 ?_
    refine aa ?_
    obtain rfl:=Option.some.inj h
    exact aV ⟨.inl rfl,.two (.tmp rt) (.tmp rt) rfl rfl⟩
instance:FN Tryz.prog 170:=⟨⟨_,Tryz.func170,by decide,by simp [Tryz.f170]⟩⟩
set_option maxRecDepth 100000 in
set_option maxHeartbeats 4000000 in
theorem af.v (k:Nat) (l0:List Int) (l1:List Int) (r:Int) (h:P.af.f k l0 l1=some r):Fn Tryz.prog 170 [.ints .i64 l0,.ints .i64 l1] (.int .i64 r):=by
 refine bO Tryz.func170 rfl (Nat.le_of_ble_eq_true rfl) ?_
 intro X hX
 unfold P.af.f at h
 refine ae (ab ?_)
 refine o1 ?_
 refine aa (ae (ab ?_))
 iterate 3 refine o1 ?_
 refine aa (ae (ab ?_))
 iterate 2 refine o1 ?_
 refine aa (ae (ae (ab ?_)))
 iterate 2 refine o1 ?_
 refine aa (aK (bK ?_))
 refine bN (D:=List Int×List Int×Int×Int×Int×Int×Unit) (fun d=>⟨look [(0,.ints .i64 d.1),(1,.ints .i64 d.2.1),(5,.int .i64 d.2.2.1),(6,.int .i64 d.2.2.2.1),(7,.int .i64 d.2.2.2.2.1),(8,.int .i64 d.2.2.2.2.2.1)],look []⟩) (fun K_ d=>P.af.l0 K_ d.1 d.2.1 d.2.2.1 d.2.2.2.1 d.2.2.2.2.1 d.2.2.2.2.2.1=some r) ?_ _ (_,_,_,_,_,_,()) h (aX _ _ ⟨rfl,rfl,rfl,rfl,rfl,rfl,trivial⟩ trivial rfl)
 intro K1 ih2 d h
 obtain ⟨x0,x1,x5,x6,x7,x8,_⟩:=d
 dsimp only at h ⊢
 cases K1 with
 | zero=>exact absurd h (by simp [P.af.l0])
 | succ m3 =>
  simp only [P.af.l0] at h
  refine bj (ae (ae (ab ?_)))
  iterate 5 refine o1 ?_
  refine aa ?_
  refine aM rfl (fun hb=>?_) (fun hb=>?_)
  ·skip
   obtain ⟨c4,h⟩:=tkT h hb
   have g5:=hb
   clear hb
   refine aN (ae (aK (ae (ab ?_))))
   iterate 3 refine o1 ?_
   refine aa (ae (ab ?_))
   iterate 4 refine o1 ?_
   refine aa ?_
   refine aM rfl (fun hb=>?_) (fun hb=>?_)
   ·skip
    obtain ⟨c6,h⟩:=tkT h hb
    have g7:=hb
    clear hb
    obtain ⟨q8,h⟩:=aj h
    refine ab ?_
    iterate 7 refine o1 ?_
    refine aa (ab ?_)
    iterate 3 refine o1 ?_
    refine aa ?_
    exact aP (ih2 m3 (by omega) (_,_,_,_,_,_,()) h) ⟨rfl,rfl,rfl,rfl,rfl,rfl,trivial⟩ trivial rfl
   ·skip
    obtain ⟨c9,h⟩:=tkF h hb
    have g10:=hb
    clear hb
    refine aN (ab ?_)
    iterate 3 refine o1 ?_
    refine aa ?_
    exact aP (ih2 m3 (by omega) (_,_,_,_,_,_,()) h) ⟨rfl,rfl,rfl,rfl,rfl,rfl,trivial⟩ trivial rfl
  ·skip
   obtain ⟨c11,h⟩:=tkF h hb
   have g12:=hb
   clear hb
   refine bC (ae (ae (ab ?_)))
   iterate 3 refine o1 ?_
   refine aa (aK (bK ?_))
   refine bN (D:=List Int×List Int×Int×Int×Int×Int×Unit) (fun d=>⟨look [(0,.ints .i64 d.1),(1,.ints .i64 d.2.1),(5,.int .i64 d.2.2.1),(6,.int .i64 d.2.2.2.1),(7,.int .i64 d.2.2.2.2.1),(9,.int .i64 d.2.2.2.2.2.1)],look []⟩) (fun K_ d=>P.af.l1 K_ d.1 d.2.1 d.2.2.1 d.2.2.2.1 d.2.2.2.2.1 d.2.2.2.2.2.1=some r∧K_≤m3) ?_ _ (_,_,_,_,_,_,()) ⟨h,by omega⟩ (aX _ _ ⟨rfl,rfl,rfl,rfl,rfl,rfl,trivial⟩ trivial rfl)
   intro K13 ih14 d h
   obtain ⟨h,b16⟩:=h
   obtain ⟨x0,x1,x5,x6,x7,x9,_⟩:=d
   dsimp only at h b16 ⊢
   cases K13 with
   | zero=>exact absurd h (by simp [P.af.l1])
   | succ m15 =>
    simp only [P.af.l1] at h
    refine bj (ae (ae (ab ?_)))
    iterate 5 refine o1 ?_
    refine aa ?_
    refine aM rfl (fun hb=>?_) (fun hb=>?_)
    ·skip
     obtain ⟨c17,h⟩:=tkT h hb
     have g18:=hb
     clear hb
     obtain ⟨q19,h⟩:=aj h
     obtain ⟨q20,h⟩:=aj h
     refine aN (ae (aK (ab ?_)))
     iterate 8 refine o1 ?_
     refine aa (ab ?_)
     iterate 3 refine o1 ?_
     refine aa ?_
     exact aP (ih14 m15 (by omega) (_,_,_,_,_,_,()) ⟨h,by omega⟩) ⟨rfl,rfl,rfl,rfl,rfl,rfl,trivial⟩ trivial rfl
    ·skip
     obtain ⟨c21,h⟩:=tkF h hb
     have g22:=hb
     clear hb
     refine bC (ae (ae (ab ?_)))
     iterate 2 refine o1 ?_
     refine aa ?_
     refine ff (D:=Nat×List Int×List Int×Int×Int×Unit) (fun d=>⟨look [(0,.ints .i64 d.2.1),(1,.ints .i64 d.2.2.1),(6,.int .i64 d.2.2.2.1),(7,.int .i64 d.2.2.2.2.1)],look []⟩) (fun d=>P.af.j2 d.1 d.2.1 d.2.2.1 d.2.2.2.1 d.2.2.2.2.1=some r∧d.1≤m15) ?_ ?_
     ·skip
      rintro ⟨kq23,x0,x1,x6,x7,_⟩ ⟨h,b24⟩
      dsimp only at h b24 ⊢
      cases kq23 with
      | zero=>exact absurd h (by simp [P.af.j2])
      | succ m25 =>
       simp only [P.af.j2] at h
       obtain ⟨q26,h⟩:=fj h
       refine ae (ab ?_)
       iterate 5 refine o1 ?_
       refine aa (ae (aK (bK ?_)))
       refine bN (D:=List Int×List Int×Int×Unit) (fun d=>⟨look [(0,.ints .i64 d.1),(1,.ints .i64 d.2.1),(10,.int .i64 d.2.2.1)],look []⟩) (fun K_ d=>P.af.l2 K_ d.1 d.2.1 d.2.2.1=some r∧K_≤m25) ?_ _ (_,_,_,()) ⟨h,by omega⟩ (aX _ _ ⟨rfl,rfl,rfl,trivial⟩ trivial rfl)
       intro K27 ih28 d h
       obtain ⟨h,b30⟩:=h
       obtain ⟨x0,x1,x10,_⟩:=d
       dsimp only at h b30 ⊢
       cases K27 with
       | zero=>exact absurd h (by simp [P.af.l2])
       | succ m29 =>
        simp only [P.af.l2] at h
        refine bj (ae (ae (ab ?_)))
        iterate 2 refine o1 ?_
        obtain ⟨t31,ht32,h⟩:=Option.bind_eq_some_iff.1 h
        refine opC (ah.v _ _ _ _ _ ht32) ?_
        refine o1 ?_
        obtain ⟨t33,ht34,h⟩:=Option.bind_eq_some_iff.1 h
        refine opC (an.v _ _ _ _ ht34) ?_
        refine o1 ?_
        refine aa ?_
        refine aM rfl (fun hb=>?_) (fun hb=>?_)
        ·skip
         obtain ⟨c35,h⟩:=tkT h hb
         have g36:=hb
         clear hb
         refine aN (aK (ab ?_))
         iterate 3 refine o1 ?_
         refine aa ?_
         exact aP (ih28 m29 (by omega) (_,_,_,()) ⟨h,by omega⟩) ⟨rfl,rfl,rfl,trivial⟩ trivial rfl
        ·skip
         obtain ⟨c37,h⟩:=tkF h hb
         have g38:=hb
         clear hb
         refine bC (ae (aK (bK ?_)))
         refine bN (D:=List Int×List Int×Int×Unit) (fun d=>⟨look [(0,.ints .i64 d.1),(1,.ints .i64 d.2.1),(10,.int .i64 d.2.2.1)],look []⟩) (fun K_ d=>P.af.l3 K_ d.1 d.2.1 d.2.2.1=some r∧K_≤m29) ?_ _ (_,_,_,()) ⟨h,by omega⟩ (aX _ _ ⟨rfl,rfl,rfl,trivial⟩ trivial rfl)
         intro K39 ih40 d h
         obtain ⟨h,b42⟩:=h
         obtain ⟨x0,x1,x10,_⟩:=d
         dsimp only at h b42 ⊢
         cases K39 with
         | zero=>exact absurd h (by simp [P.af.l3])
         | succ m41 =>
          simp only [P.af.l3] at h
          refine bj (ae (ae (ab ?_)))
          iterate 4 refine o1 ?_
          refine og rfl rfl rfl rfl (fun hb=>?_) (fun hb=>?_)
          ·skip
           obtain ⟨c43,h⟩:=tkT h hb
           have g44:=hb
           clear hb
           iterate 3 refine oT ?_
           obtain ⟨t45,ht46,h⟩:=Option.bind_eq_some_iff.1 h
           refine opCT (ah.v _ _ _ _ _ ht46) ?_
           refine oT ?_
           obtain ⟨t47,ht48,h⟩:=Option.bind_eq_some_iff.1 h
           refine opCT (an.v _ _ _ _ ht48) ?_
           refine oT ?_
           refine o1 ?_
           refine aa ?_
           refine aM rfl (fun hb=>?_) (fun hb=>?_)
           ·skip
            obtain ⟨c49,h⟩:=tkT h hb
            have g50:=hb
            clear hb
            refine aN (aK (ab ?_))
            iterate 3 refine o1 ?_
            refine aa ?_
            exact aP (ih40 m41 (by omega) (_,_,_,()) ⟨h,by omega⟩) ⟨rfl,rfl,rfl,trivial⟩ trivial rfl
           ·skip
            obtain ⟨c51,h⟩:=tkF h hb
            have g52:=hb
            clear hb
            refine bC (ae (ab ?_))
            iterate 2 refine o1 ?_
            refine aa ?_
            obtain rfl:=Option.some.inj h
            exact aV ⟨.inl rfl,.one (.tmp rt) rfl⟩
          ·skip
           obtain ⟨c53,h⟩:=tkF h hb
           have g54:=hb
           clear hb
           iterate 7 refine opS ?_
           refine o1 ?_
           refine aa ?_
           refine aM rfl (fun hb=>?_) (fun hb=>?_)
           ·skip
            first | cases hb | (simp_all;done)
           ·skip
            refine bC (ae (ab ?_))
            iterate 2 refine o1 ?_
            refine aa ?_
            obtain rfl:=Option.some.inj h
            exact aV ⟨.inl rfl,.one (.tmp rt) rfl⟩
     ·skip
      refine aM rfl (fun hb=>?_) (fun hb=>?_)
      ·skip
       obtain ⟨c55,h⟩:=tkT h hb
       have g56:=hb
       clear hb
       obtain ⟨q57,h⟩:=aj h
       refine ab ?_
       iterate 4 refine o1 ?_
       refine aa ?_
       exact ⟨(m15,_,_,_,_,()),⟨h,by omega⟩,aX _ _ ⟨rfl,rfl,rfl,rfl,trivial⟩ trivial rfl⟩
      ·skip
       obtain ⟨c58,h⟩:=tkF h hb
       have g59:=hb
       clear hb
       refine aN ?_
       exact ⟨(m15,_,_,_,_,()),⟨h,by omega⟩,aX _ _ ⟨rfl,rfl,rfl,rfl,trivial⟩ trivial rfl⟩
instance:FN Tryz.prog 147:=⟨⟨_,Tryz.func147,by decide,by simp [Tryz.f147]⟩⟩
set_option maxRecDepth 100000 in
set_option maxHeartbeats 4000000 in
theorem ay.v (k:Nat) (l0:List Int) (l1:List Int) (r:List Int×List Int) (h:P.ay.f k l0 l1=some r):Fn Tryz.prog 147 [.ints .i64 l0,.ints .i64 l1] (.tup [.ints .i64 r.1,.ints .i64 r.2]):=by
 refine bO Tryz.func147 rfl (Nat.le_of_ble_eq_true rfl) ?_
 intro X hX
 unfold P.ay.f at h
 refine ae (ab ?_)
 iterate 2 refine o1 ?_
 refine aa (ae (ae (ab ?_)))
 iterate 2 refine o1 ?_
 obtain ⟨t1,ht2,h⟩:=Option.bind_eq_some_iff.1 h
 refine opC (an.v _ _ _ _ ht2) ?_
 refine o1 ?_
 refine aa ?_
 refine aM rfl (fun hb=>?_) (fun hb=>?_)
 ·skip
  obtain ⟨c3,h⟩:=tkT h hb
  have g4:=hb
  clear hb
  refine ae (ab ?_)
  iterate 4 refine o1 ?_
  refine aa ?_
  obtain rfl:=Option.some.inj h
  exact aV ⟨.inl rfl,.two (.tmp rt) (.tmp rt) rfl rfl⟩
 ·skip
  obtain ⟨c5,h⟩:=tkF h hb
  have g6:=hb
  clear hb
  refine aN (ae (ae (ab ?_)))
  refine o1 ?_
  obtain ⟨t7,ht8,h⟩:=Option.bind_eq_some_iff.1 h
  refine opC (au.v _ _ _ ht8) ?_
  iterate 5 refine o1 ?_
  refine aa (ae (ab ?_))
  refine o1 ?_
  refine aa ?_
  refine aM rfl (fun hb=>?_) (fun hb=>?_)
  ·skip
   obtain ⟨c9,h⟩:=tkT h hb
   have g10:=hb
   clear hb
   refine ae (ab ?_)
   refine o1 ?_
   obtain ⟨t11,ht12,h⟩:=Option.bind_eq_some_iff.1 h
   refine opC (au.v _ _ _ ht12) ?_
   obtain ⟨q13,h⟩:=fj h
   iterate 5 refine o1 ?_
   refine aa (ae ?_)
   refine zA [m4 [6] [] [32] [],m4 [8] [] [33] [],m4 [32,33] [] [34] [],m4 [34] [] [35] [],m4 [6] [] [36] [],m4 [8] [] [37] [],m4 [36,37] [] [38] [],m4 [38] [] [39] [],m4 [35] [] [4] [],m4 [39] [] [5] []] [[],[],[0,1],[0,1,2],[],[],[4,5],[0,1,2,3,4,5,6],[0,1,2,3,4,5,6,7],[0,1,2,3,4,5,6,7,8]] ?_
   refine dG [(6,_)] [] [(32,_)] [] ⟨rfl,trivial⟩ trivial (fun S0=>bu rfl rfl ow rfl) ?_
   refine dG [(8,_)] [] [(33,_)] [] ⟨rfl,trivial⟩ trivial (fun S0=>bu rfl rfl ow rfl) ?_
   refine dG [(32,_),(33,_)] [] [(34,_)] [] ⟨rfl,rfl,trivial⟩ trivial (fun S0=>bu rfl rfl ow rfl) ?_
   obtain ⟨t14,ht15,h⟩:=Option.bind_eq_some_iff.1 h
   refine dG [(34,_)] [] [(35,_)] [] ⟨rfl,trivial⟩ trivial (fun S0=>bu rfl rfl (oc (az.v _ _ _ ht15)) rfl) ?_
   refine dG [(6,_)] [] [(36,_)] [] ⟨rfl,trivial⟩ trivial (fun S0=>bu rfl rfl ow rfl) ?_
   refine dG [(8,_)] [] [(37,_)] [] ⟨rfl,trivial⟩ trivial (fun S0=>bu rfl rfl ow rfl) ?_
   refine dG [(36,_),(37,_)] [] [(38,_)] [] ⟨rfl,rfl,trivial⟩ trivial (fun S0=>bu rfl rfl ow rfl) ?_
   obtain ⟨t16,ht17,h⟩:=Option.bind_eq_some_iff.1 h
   refine dG [(38,_)] [] [(39,_)] [] ⟨rfl,trivial⟩ trivial (fun S0=>bu rfl rfl (oc (az.v _ _ _ ht17)) rfl) ?_
   refine dG [(35,_)] [] [(4,_)] [] ⟨rfl,trivial⟩ trivial (fun S0=>bu rfl rfl ow rfl) ?_
   refine dG [(39,_)] [] [(5,_)] [] ⟨rfl,trivial⟩ trivial (fun S0=>bu rfl rfl ow rfl) ?_
   refine dn ?_
   obtain rfl:=Option.some.inj h
   exact aV ⟨.inl rfl,.two (.tmp rt) (.tmp rt) rfl rfl⟩
  ·skip
   obtain ⟨c18,h⟩:=tkF h hb
   have g19:=hb
   clear hb
   refine aN (ae (ae (ab ?_)))
   iterate 3 refine o1 ?_
   refine aa ?_
   refine aM rfl (fun hb=>?_) (fun hb=>?_)
   ·skip
    obtain ⟨c20,h⟩:=tkT h hb
    have g21:=hb
    clear hb
    obtain ⟨q22,h⟩:=aj h
    refine ae (ab ?_)
    iterate 4 refine o1 ?_
    obtain ⟨t23,ht24,h⟩:=Option.bind_eq_some_iff.1 h
    refine opC (aD.v _ _ _ _ ht24) ?_
    iterate 5 refine o1 ?_
    refine aa (ae (ab ?_))
    iterate 2 refine o1 ?_
    obtain ⟨t25,ht26,h⟩:=Option.bind_eq_some_iff.1 h
    refine opC (az.v _ _ _ ht26) ?_
    iterate 2 refine o1 ?_
    refine aa ?_
    obtain rfl:=Option.some.inj h
    exact aV ⟨.inl rfl,.two (.tmp rt) (.tmp rt) rfl rfl⟩
   ·skip
    obtain ⟨c27,h⟩:=tkF h hb
    have g28:=hb
    clear hb
    obtain ⟨q29,h⟩:=aj h
    obtain ⟨q30,h⟩:=aj h
    refine aN (ae (ab ?_))
    iterate 4 refine o1 ?_
    refine aa (ae (ab ?_))
    iterate 2 refine o1 ?_
    refine aa (ae (ae (ab ?_)))
    iterate 4 refine o1 ?_
    refine aa (aK (bK ?_))
    refine bN (D:=List Int×List Int×List Int×List Int×Int×Unit) (fun d=>⟨look [(0,.ints .i64 d.1),(1,.ints .i64 d.2.1),(12,.own 56),(13,.ints .i64 d.2.2.2.1),(14,.int .i64 d.2.2.2.2.1)],look [(56,dL 3 .i64 d.2.2.1)]⟩) (fun K_ d=>P.ay.l0 K_ d.1 d.2.1 d.2.2.1 d.2.2.2.1 d.2.2.2.2.1=some r) ?_ _ (_,_,_,_,_,()) h (aX _ _ ⟨rfl,rfl,rfl,rfl,rfl,trivial⟩ ⟨rfl,trivial⟩ rfl)
    intro K31 ih32 d h
    obtain ⟨x0,x1,x12,x13,x14,_⟩:=d
    dsimp only at h ⊢
    cases K31 with
    | zero=>exact absurd h (by simp [P.ay.l0])
    | succ m33 =>
     simp only [P.ay.l0] at h
     refine bj (ae (ae (ab ?_)))
     iterate 2 refine o1 ?_
     refine aa ?_
     refine aM rfl (fun hb=>?_) (fun hb=>?_)
     ·skip
      obtain ⟨c34,h⟩:=tkT h hb
      have g35:=hb
      clear hb
      obtain ⟨q36,h⟩:=aj h
      obtain ⟨q37,h⟩:=aj h
      refine aN (ae (aK (ae (ab ?_))))
      iterate 5 refine o1 ?_
      obtain ⟨t38,ht39,h⟩:=Option.bind_eq_some_iff.1 h
      refine opC (ah.v _ _ _ _ _ ht39) ?_
      refine o1 ?_
      refine aa (ae (ae (ab ?_)))
      iterate 2 refine o1 ?_
      obtain ⟨t40,ht41,h⟩:=Option.bind_eq_some_iff.1 h
      refine opC (an.v _ _ _ _ ht41) ?_
      refine o1 ?_
      refine aa ?_
      refine aM rfl (fun hb=>?_) (fun hb=>?_)
      ·skip
       obtain ⟨c42,h⟩:=tkT h hb
       have g43:=hb
       clear hb
       refine bC (ab ?_)
       iterate 3 refine o1 ?_
       refine aa ?_
       exact aP (ih32 m33 (by omega) (_,_,_,_,_,()) h) ⟨rfl,rfl,rfl,rfl,rfl,trivial⟩ ⟨rfl,trivial⟩ rfl
      ·skip
       obtain ⟨c44,h⟩:=tkF h hb
       have g45:=hb
       clear hb
       refine aN (ae (ab ?_))
       iterate 4 refine o1 ?_
       obtain ⟨t46,ht47,h⟩:=Option.bind_eq_some_iff.1 h
       refine opC (af.v _ _ _ _ ht47) ?_
       obtain ⟨q48,h⟩:=aj h
       replace h:=Bo h
       iterate 2 refine o1 ?_
       refine aa (ab ?_)
       iterate 6 refine o1 ?_
       obtain ⟨t49,ht50,h⟩:=Option.bind_eq_some_iff.1 h
       refine opC (ah.v _ _ _ _ _ ht50) ?_
       obtain ⟨t51,ht52,h⟩:=Option.bind_eq_some_iff.1 h
       refine opC (aG.v _ _ _ _ ht52) ?_
       refine o1 ?_
       refine aa (ab ?_)
       iterate 3 refine o1 ?_
       refine aa ?_
       exact aP (ih32 m33 (by omega) (_,_,_,_,_,()) h) ⟨rfl,rfl,rfl,rfl,rfl,trivial⟩ ⟨rfl,trivial⟩ rfl
     ·skip
      obtain ⟨c53,h⟩:=tkF h hb
      have g54:=hb
      clear hb
      refine bC (ae ?_)
      refine df (cD (k:=56) rfl) ?_
      refine ab ?_
      refine o1 ?_
      obtain ⟨t55,ht56,h⟩:=Option.bind_eq_some_iff.1 h
      refine opC (ai.v _ _ _ ht56) ?_
      iterate 3 refine o1 ?_
      refine aa ?_
      obtain rfl:=Option.some.inj h
      exact aV ⟨.inl rfl,.two (.tmp rt) (.tmp rt) rfl rfl⟩
instance:FN Tryz.prog 133:=⟨⟨_,Tryz.func133,by decide,by simp [Tryz.f133]⟩⟩
set_option maxRecDepth 100000 in
set_option maxHeartbeats 4000000 in
theorem ak.v (k:Nat) (l0:List Int) (l1:List Int) (r:List Int) (h:P.ak.f k l0 l1=some r):Fn Tryz.prog 133 [.ints .i64 l0,.ints .i64 l1] (.ints .i64 r):=by
 refine bO Tryz.func133 rfl (Nat.le_of_ble_eq_true rfl) ?_
 intro X hX
 unfold P.ak.f at h
 refine ae (ab ?_)
 refine o1 ?_
 refine aa (ae (aK (bK ?_)))
 refine bN (D:=List Int×List Int×Unit) (fun d=>⟨look [(0,.ints .i64 d.1),(1,.ints .i64 d.2.1)],look []⟩) (fun K_ d=>P.ak.l0 K_ d.1 d.2.1=some r) ?_ _ (_,_,()) h (aX _ _ ⟨rfl,rfl,trivial⟩ trivial rfl)
 intro K1 ih2 d h
 obtain ⟨x0,x1,_⟩:=d
 dsimp only at h ⊢
 cases K1 with
 | zero=>exact absurd h (by simp [P.ak.l0])
 | succ m3 =>
  simp only [P.ak.l0] at h
  refine bj (ae (ae (ab ?_)))
  iterate 3 refine o1 ?_
  refine aa ?_
  refine aM rfl (fun hb=>?_) (fun hb=>?_)
  ·skip
   obtain ⟨c4,h⟩:=tkT h hb
   have g5:=hb
   clear hb
   refine aN (aK (ae (ab ?_)))
   refine o1 ?_
   obtain ⟨t6,ht7,h⟩:=Option.bind_eq_some_iff.1 h
   refine opC (au.v _ _ _ ht7) ?_
   iterate 5 refine o1 ?_
   refine aa (ae (ab ?_))
   refine o1 ?_
   obtain ⟨t8,ht9,h⟩:=Option.bind_eq_some_iff.1 h
   refine opC (au.v _ _ _ ht9) ?_
   iterate 5 refine o1 ?_
   refine aa (ae (ae ?_))
   refine ff (D:=Nat×List Int×List Int×Int×Int×Bool×Unit) (fun d=>⟨look [(0,.ints .i64 d.2.1),(1,.ints .i64 d.2.2.1),(5,.int .i64 d.2.2.2.1),(7,.int .i64 d.2.2.2.2.1),(27,.bool d.2.2.2.2.2.1)],look []⟩) (fun d=>P.ak.j1 d.1 d.2.1 d.2.2.1 d.2.2.2.1 d.2.2.2.2.1 d.2.2.2.2.2.1=some r∧d.1≤m3) ?_ ?_
   ·skip
    rintro ⟨kq10,x0,x1,x5,x7,x27,_⟩ ⟨h,b11⟩
    dsimp only at h b11 ⊢
    cases kq10 with
    | zero=>exact absurd h (by simp [P.ak.j1])
    | succ m12 =>
     simp only [P.ak.j1] at h
     refine aM rfl (fun hb=>?_) (fun hb=>?_)
     ·skip
      obtain ⟨c13,h⟩:=tkT h hb
      have g14:=hb
      clear hb
      refine ae (aK (bK ?_))
      refine bN (D:=Int×Int×Unit) (fun d=>⟨look [(5,.int .i64 d.1),(7,.int .i64 d.2.1)],look []⟩) (fun K_ d=>P.ak.l1 K_ d.1 d.2.1=some r∧K_≤m12) ?_ _ (_,_,()) ⟨h,by omega⟩ (aX _ _ ⟨rfl,rfl,trivial⟩ trivial rfl)
      intro K15 ih16 d h
      obtain ⟨h,b18⟩:=h
      obtain ⟨x5,x7,_⟩:=d
      dsimp only at h b18 ⊢
      cases K15 with
      | zero=>exact absurd h (by simp [P.ak.l1])
      | succ m17 =>
       simp only [P.ak.l1] at h
       refine bj (ae (ae (ab ?_)))
       iterate 2 refine o1 ?_
       refine aa ?_
       refine aM rfl (fun hb=>?_) (fun hb=>?_)
       ·skip
        obtain ⟨c19,h⟩:=tkT h hb
        have g20:=hb
        clear hb
        obtain ⟨q21,h⟩:=fj h
        refine aN (aK (ef ?_))
        iterate 6 refine s1 ?_
        refine jq ?_
        exact aP (ih16 m17 (by omega) (_,_,()) ⟨h,by omega⟩) ⟨rfl,rfl,trivial⟩ trivial rfl
       ·skip
        obtain ⟨c22,h⟩:=tkF h hb
        have g23:=hb
        clear hb
        refine bC (ae (ab ?_))
        refine o1 ?_
        obtain ⟨t24,ht25,h⟩:=Option.bind_eq_some_iff.1 h
        refine opC (az.v _ _ _ ht25) ?_
        refine o1 ?_
        refine aa ?_
        obtain rfl:=Option.some.inj h
        exact aV ⟨.inl rfl,.one (.tmp rt) rfl⟩
     ·skip
      obtain ⟨c26,h⟩:=tkF h hb
      have g27:=hb
      clear hb
      refine aN (ae (ab ?_))
      iterate 2 refine o1 ?_
      obtain ⟨t28,ht29,h⟩:=Option.bind_eq_some_iff.1 h
      refine opC (ay.v _ _ _ _ ht29) ?_
      iterate 5 refine o1 ?_
      refine aa (ab ?_)
      iterate 4 refine o1 ?_
      refine aa ?_
      exact aP (ih2 m12 (by omega) (_,_,()) h) ⟨rfl,rfl,trivial⟩ trivial rfl
   ·skip
    refine ab ?_
    iterate 2 refine o1 ?_
    refine og rfl rfl rfl rfl (fun hb=>?_) (fun hb=>?_)
    ·skip
     obtain ⟨c30,h⟩:=tkT h hb
     have g31:=hb
     clear hb
     refine oT ?_
     refine o1 ?_
     refine aa ?_
     exact ⟨(m3,_,_,_,_,_,()),⟨h,by omega⟩,aX _ _ ⟨rfl,rfl,rfl,rfl,rfl,trivial⟩ trivial rfl⟩
    ·skip
     obtain ⟨c32,h⟩:=tkF h hb
     have g33:=hb
     clear hb
     refine opS ?_
     refine o1 ?_
     refine aa ?_
     exact ⟨(m3,_,_,_,_,_,()),⟨h,by omega⟩,aX _ _ ⟨rfl,rfl,rfl,rfl,rfl,trivial⟩ trivial rfl⟩
  ·skip
   obtain ⟨c34,h⟩:=tkF h hb
   have g35:=hb
   clear hb
   refine bC (ae (ab ?_))
   iterate 2 refine o1 ?_
   refine aa ?_
   obtain rfl:=Option.some.inj h
   exact aV ⟨.inl rfl,.one (.tmp rt) rfl⟩
instance:FN Tryz.prog 127:=⟨⟨_,Tryz.func127,by decide,by simp [Tryz.f127]⟩⟩
set_option maxRecDepth 100000 in
set_option maxHeartbeats 4000000 in
theorem aw.v (k:Nat) (l0:List Int) (r:ByteArray) (h:P.aw.f k l0=some r):Fn Tryz.prog 127 [.ints .i64 l0] (.str r):=by
 refine bO Tryz.func127 rfl (Nat.le_of_ble_eq_true rfl) ?_
 intro X hX
 unfold P.aw.f at h
 refine ae (ab ?_)
 refine o1 ?_
 refine aa (ae (ae (ab ?_)))
 iterate 3 refine o1 ?_
 refine aa ?_
 refine aM rfl (fun hb=>?_) (fun hb=>?_)
 ·skip
  obtain ⟨c1,h⟩:=tkT h hb
  have g2:=hb
  clear hb
  refine ae (ab ?_)
  refine o1 ?_
  refine aa ?_
  obtain rfl:=Option.some.inj h
  exact aV ⟨.inl rfl,.one (.tmp rt) rfl⟩
 ·skip
  obtain ⟨c3,h⟩:=tkF h hb
  have g4:=hb
  clear hb
  refine aN (ae (ab ?_))
  refine cp rfl (mA 5 .u8 (.inr rfl) rfl rfl (ib hX (by decide))) ?_
  refine aa (ae (ae (ab ?_)))
  iterate 4 refine o1 ?_
  refine aa (aK (bK ?_))
  refine bN (D:=List Int×List Int×Int×Unit) (fun d=>⟨look [(0,.ints .i64 d.1),(3,.own 3),(4,.int .i64 d.2.2.1)],look [(3,dL 5 .u8 d.2.1)]⟩) (fun K_ d=>P.aw.l0 K_ d.1 d.2.1 d.2.2.1=some r) ?_ _ (_,_,_,()) h (aX _ _ ⟨rfl,rfl,rfl,trivial⟩ ⟨rfl,trivial⟩ rfl)
  intro K5 ih6 d h
  obtain ⟨x0,x3,x4,_⟩:=d
  dsimp only at h ⊢
  cases K5 with
  | zero=>exact absurd h (by simp [P.aw.l0])
  | succ m7 =>
   simp only [P.aw.l0] at h
   refine bj (ae (ae (ab ?_)))
   iterate 2 refine o1 ?_
   refine aa ?_
   refine aM rfl (fun hb=>?_) (fun hb=>?_)
   ·skip
    obtain ⟨c8,h⟩:=tkT h hb
    have g9:=hb
    clear hb
    refine aN (ae (aK (ae (ab ?_))))
    refine o1 ?_
    refine aa (aK (bK ?_))
    refine bN (D:=List Int×List Int×Int×Int×Unit) (fun d=>⟨look [(0,.ints .i64 d.1),(3,.own 3),(4,.int .i64 d.2.2.1),(5,.int .i64 d.2.2.2.1)],look [(3,dL 5 .u8 d.2.1)]⟩) (fun K_ d=>P.aw.l1 K_ d.1 d.2.1 d.2.2.1 d.2.2.2.1=some r∧K_≤m7) ?_ _ (_,_,_,_,()) ⟨h,by omega⟩ (aX _ _ ⟨rfl,rfl,rfl,rfl,trivial⟩ ⟨rfl,trivial⟩ rfl)
    intro K10 ih11 d h
    obtain ⟨h,b13⟩:=h
    obtain ⟨x0,x3,x4,x5,_⟩:=d
    dsimp only at h b13 ⊢
    cases K10 with
    | zero=>exact absurd h (by simp [P.aw.l1])
    | succ m12 =>
     simp only [P.aw.l1] at h
     refine bj (ae (ae (ab ?_)))
     iterate 2 refine o1 ?_
     refine aa ?_
     refine aM rfl (fun hb=>?_) (fun hb=>?_)
     ·skip
      obtain ⟨c14,h⟩:=tkT h hb
      have g15:=hb
      clear hb
      obtain ⟨q16,h⟩:=aj h
      obtain ⟨q17,h⟩:=aj h
      obtain ⟨q18,h⟩:=fj h
      refine aN (ae (aK (ae (ab ?_))))
      iterate 8 refine o1 ?_
      refine aa (ae (ab ?_))
      iterate 4 refine o1 ?_
      refine og rfl rfl rfl rfl (fun hb=>?_) (fun hb=>?_)
      ·skip
       obtain ⟨c19,h⟩:=tkF h hb
       have g20:=hb
       clear hb
       iterate 2 refine oT ?_
       refine o1 ?_
       refine aa ?_
       refine aM rfl (fun hb=>?_) (fun hb=>?_)
       ·skip
        obtain ⟨c21,h⟩:=tkT h hb
        have g22:=hb
        clear hb
        obtain ⟨q23,h⟩:=aj h
        refine ab ?_
        iterate 7 refine o1 ?_
        refine aa (ab ?_)
        iterate 3 refine o1 ?_
        refine aa ?_
        exact aP (ih11 m12 (by omega) (_,_,_,_,()) ⟨h,by omega⟩) ⟨rfl,rfl,rfl,rfl,trivial⟩ ⟨rfl,trivial⟩ rfl
       ·skip
        obtain ⟨c24,h⟩:=tkF h hb
        have g25:=hb
        clear hb
        refine aN (ab ?_)
        iterate 3 refine o1 ?_
        refine aa ?_
        exact aP (ih11 m12 (by omega) (_,_,_,_,()) ⟨h,by omega⟩) ⟨rfl,rfl,rfl,rfl,trivial⟩ ⟨rfl,trivial⟩ rfl
      ·skip
       obtain ⟨c26,h⟩:=tkT h hb
       have g27:=hb
       clear hb
       obtain ⟨q28,h⟩:=aj h
       iterate 2 refine opS ?_
       refine o1 ?_
       refine aa ?_
       refine aM rfl (fun hb=>?_) (fun hb=>?_)
       ·skip
        refine ab ?_
        iterate 7 refine o1 ?_
        refine aa (ab ?_)
        iterate 3 refine o1 ?_
        refine aa ?_
        exact aP (ih11 m12 (by omega) (_,_,_,_,()) ⟨h,by omega⟩) ⟨rfl,rfl,rfl,rfl,trivial⟩ ⟨rfl,trivial⟩ rfl
       ·skip
        first | cases hb | (simp_all;done)
     ·skip
      obtain ⟨c29,h⟩:=tkF h hb
      have g30:=hb
      clear hb
      refine bC (ab ?_)
      iterate 3 refine o1 ?_
      refine aa ?_
      exact aP (ih6 m12 (by omega) (_,_,_,()) h) ⟨rfl,rfl,rfl,trivial⟩ ⟨rfl,trivial⟩ rfl
   ·skip
    obtain ⟨c31,h⟩:=tkF h hb
    have g32:=hb
    clear hb
    refine bC (ae (ab ?_))
    iterate 3 refine o1 ?_
    refine aa ?_
    obtain rfl:=Option.some.inj h
    exact aV ⟨.inl rfl,.one (.tmp rt) rfl⟩
instance:FN Tryz.prog 144:=⟨⟨_,Tryz.func144,by decide,by simp [Tryz.f144]⟩⟩
set_option maxRecDepth 100000 in
set_option maxHeartbeats 4000000 in
theorem aL.v (k:Nat) (l0:List Int) (l1:List Int) (r:Bool) (h:P.aL.f k l0 l1=some r):Fn Tryz.prog 144 [.ints .u32 l0,.ints .u32 l1] (.bool r):=by
 refine bO Tryz.func144 rfl (Nat.le_of_ble_eq_true rfl) ?_
 intro X hX
 unfold P.aL.f at h
 refine ae (ab ?_)
 refine o1 ?_
 refine aa (ae (ae (ab ?_)))
 iterate 5 refine o1 ?_
 refine aa ?_
 refine aM rfl (fun hb=>?_) (fun hb=>?_)
 ·skip
  obtain ⟨c1,h⟩:=tkF h hb
  have g2:=hb
  clear hb
  refine ae (ab ?_)
  refine o1 ?_
  refine aa ?_
  obtain rfl:=Option.some.inj h
  exact aV ⟨.inl rfl,.one (.tmp rt) rfl⟩
 ·skip
  obtain ⟨c3,h⟩:=tkT h hb
  have g4:=hb
  clear hb
  refine aN (ae (ae (ab ?_)))
  iterate 3 refine o1 ?_
  refine aa (aK (bK ?_))
  refine bN (D:=List Int×List Int×Int×Int×Unit) (fun d=>⟨look [(0,.ints .u32 d.1),(1,.ints .u32 d.2.1),(12,.int .i64 d.2.2.1),(13,.int .i64 d.2.2.2.1)],look []⟩) (fun K_ d=>P.aL.l0 K_ d.1 d.2.1 d.2.2.1 d.2.2.2.1=some r) ?_ _ (_,_,_,_,()) h (aX _ _ ⟨rfl,rfl,rfl,rfl,trivial⟩ trivial rfl)
  intro K5 ih6 d h
  obtain ⟨x0,x1,x12,x13,_⟩:=d
  dsimp only at h ⊢
  cases K5 with
  | zero=>exact absurd h (by simp [P.aL.l0])
  | succ m7 =>
   simp only [P.aL.l0] at h
   refine bj (ae (ab ?_))
   refine o1 ?_
   refine aa (ae ?_)
   refine aM rfl (fun hb=>?_) (fun hb=>?_)
   ·skip
    obtain ⟨c8,h⟩:=tkT h hb
    have g9:=hb
    clear hb
    obtain ⟨q10,h⟩:=aj h
    obtain ⟨q11,h⟩:=aj h
    obtain ⟨q12,h⟩:=aj h
    refine aN (ae (aK (ae (ab ?_))))
    iterate 2 refine o1 ?_
    refine aa (ae (ef ?_))
    iterate 9 refine s1 ?_
    refine jq ?_
    refine aM rfl (fun hb=>?_) (fun hb=>?_)
    ·skip
     obtain ⟨c13,h⟩:=tkF h hb
     have g14:=hb
     clear hb
     refine ae (ab ?_)
     refine o1 ?_
     refine aa ?_
     obtain rfl:=Option.some.inj h
     exact aV ⟨.inl rfl,.one (.tmp rt) rfl⟩
    ·skip
     obtain ⟨c15,h⟩:=tkT h hb
     have g16:=hb
     clear hb
     refine aN (ab ?_)
     iterate 2 refine o1 ?_
     refine aa ?_
     exact aP (ih6 m7 (by omega) (_,_,_,_,()) h) ⟨rfl,rfl,rfl,rfl,trivial⟩ trivial rfl
   ·skip
    obtain ⟨c17,h⟩:=tkF h hb
    have g18:=hb
    clear hb
    refine bC (ae (ab ?_))
    refine o1 ?_
    refine aa ?_
    obtain rfl:=Option.some.inj h
    exact aV ⟨.inl rfl,.one (.tmp rt) rfl⟩
instance:FN Tryz.prog 95:=⟨⟨_,Tryz.func95,by decide,by simp [Tryz.f95]⟩⟩
set_option maxRecDepth 100000 in
set_option maxHeartbeats 4000000 in
theorem aA.v (k:Nat) (l0:List Int) (l1:List Int) (r:List Int) (h:P.aA.f k l0 l1=some r):Fn Tryz.prog 95 [.ints .i64 l0,.ints .i64 l1] (.ints .i64 r):=by
 refine bO Tryz.func95 rfl (Nat.le_of_ble_eq_true rfl) ?_
 intro X hX
 unfold P.aA.f at h
 obtain ⟨q1,h⟩:=aj h
 obtain ⟨q2,h⟩:=aj h
 refine ae (ab ?_)
 refine o1 ?_
 refine aa (ae (ab ?_))
 iterate 8 refine o1 ?_
 refine aa (ae (ae (ab ?_)))
 iterate 3 refine o1 ?_
 refine aa (aK (bK ?_))
 refine bN (D:=List Int×List Int×List Int×Int×Int×Unit) (fun d=>⟨look [(1,.ints .i64 d.1),(5,.own 18),(19,.ints .i64 d.2.2.1),(20,.int .i64 d.2.2.2.1),(21,.int .i64 d.2.2.2.2.1)],look [(18,dL 3 .i64 d.2.1)]⟩) (fun K_ d=>P.aA.l0 K_ d.1 d.2.1 d.2.2.1 d.2.2.2.1 d.2.2.2.2.1=some r) ?_ _ (_,_,_,_,_,()) h (aX _ _ ⟨rfl,rfl,rfl,rfl,rfl,trivial⟩ ⟨rfl,trivial⟩ rfl)
 intro K3 ih4 d h
 obtain ⟨x1,x5,x19,x20,x21,_⟩:=d
 dsimp only at h ⊢
 cases K3 with
 | zero=>exact absurd h (by simp [P.aA.l0])
 | succ m5 =>
  simp only [P.aA.l0] at h
  refine bj (ae (ab ?_))
  refine o1 ?_
  refine aa (ae ?_)
  refine aM rfl (fun hb=>?_) (fun hb=>?_)
  ·skip
   obtain ⟨c6,h⟩:=tkT h hb
   have g7:=hb
   clear hb
   obtain ⟨q8,h⟩:=aj h
   obtain ⟨q9,h⟩:=aj h
   refine aN (ae (aK (ae (ab ?_))))
   iterate 5 refine o1 ?_
   refine aa (ae (ab ?_))
   refine o1 ?_
   refine aa (ae (ae (ab ?_)))
   iterate 3 refine o1 ?_
   refine aa (aK (bK ?_))
   refine bN (D:=List Int×List Int×Int×Int×Int×List Int×Int×Int×List Int×Int×Int×Unit) (fun d=>⟨look [(1,.ints .i64 d.1),(5,.own 18),(6,.int .i64 d.2.2.1),(7,.int .i64 d.2.2.2.1),(8,.int .i64 d.2.2.2.2.1),(19,.ints .i64 d.2.2.2.2.2.1),(20,.int .i64 d.2.2.2.2.2.2.1),(21,.int .i64 d.2.2.2.2.2.2.2.1),(26,.ints .i64 d.2.2.2.2.2.2.2.2.1),(27,.int .i64 d.2.2.2.2.2.2.2.2.2.1),(28,.int .i64 d.2.2.2.2.2.2.2.2.2.2.1)],look [(18,dL 3 .i64 d.2.1)]⟩) (fun K_ d=>P.aA.l1 K_ d.1 d.2.1 d.2.2.1 d.2.2.2.1 d.2.2.2.2.1 d.2.2.2.2.2.1 d.2.2.2.2.2.2.1 d.2.2.2.2.2.2.2.1 d.2.2.2.2.2.2.2.2.1 d.2.2.2.2.2.2.2.2.2.1 d.2.2.2.2.2.2.2.2.2.2.1=some r∧K_≤m5) ?_ _ (_,_,_,_,_,_,_,_,_,_,_,()) ⟨h,by omega⟩ (aX _ _ ⟨rfl,rfl,rfl,rfl,rfl,rfl,rfl,rfl,rfl,rfl,rfl,trivial⟩ ⟨rfl,trivial⟩ rfl)
   intro K10 ih11 d h
   obtain ⟨h,b13⟩:=h
   obtain ⟨x1,x5,x6,x7,x8,x19,x20,x21,x26,x27,x28,_⟩:=d
   dsimp only at h b13 ⊢
   cases K10 with
   | zero=>exact absurd h (by simp [P.aA.l1])
   | succ m12 =>
    simp only [P.aA.l1] at h
    refine bj (ae (ab ?_))
    refine o1 ?_
    refine aa (ae ?_)
    refine aM rfl (fun hb=>?_) (fun hb=>?_)
    ·skip
     obtain ⟨c14,h⟩:=tkT h hb
     have g15:=hb
     clear hb
     obtain ⟨q16,h⟩:=aj h
     obtain ⟨q17,h⟩:=aj h
     obtain ⟨q18,h⟩:=aj h
     obtain ⟨q19,h⟩:=aj h
     refine aN (ae (aK (ae (ab ?_))))
     iterate 5 refine o1 ?_
     refine aa (ae (ab ?_))
     iterate 13 refine o1 ?_
     refine aa (ae (ab ?_))
     iterate 8 refine o1 ?_
     refine aa (ab ?_)
     iterate 3 refine o1 ?_
     refine aa (ab ?_)
     iterate 2 refine o1 ?_
     refine aa ?_
     exact aP (ih11 m12 (by omega) (_,_,_,_,_,_,_,_,_,_,_,()) ⟨h,by omega⟩) ⟨rfl,rfl,rfl,rfl,rfl,rfl,rfl,rfl,rfl,rfl,rfl,trivial⟩ ⟨rfl,trivial⟩ rfl
    ·skip
     obtain ⟨c20,h⟩:=tkF h hb
     have g21:=hb
     clear hb
     refine bC (ae (ab ?_))
     iterate 5 refine o1 ?_
     refine aa (aK (bK ?_))
     refine bN (D:=List Int×List Int×Int×Int×List Int×Int×Int×Unit) (fun d=>⟨look [(1,.ints .i64 d.1),(5,.own 18),(8,.int .i64 d.2.2.1),(11,.int .i64 d.2.2.2.1),(19,.ints .i64 d.2.2.2.2.1),(20,.int .i64 d.2.2.2.2.2.1),(21,.int .i64 d.2.2.2.2.2.2.1)],look [(18,dL 3 .i64 d.2.1)]⟩) (fun K_ d=>P.aA.l2 K_ d.1 d.2.1 d.2.2.1 d.2.2.2.1 d.2.2.2.2.1 d.2.2.2.2.2.1 d.2.2.2.2.2.2.1=some r∧K_≤m12) ?_ _ (_,_,_,_,_,_,_,()) ⟨h,by omega⟩ (aX _ _ ⟨rfl,rfl,rfl,rfl,rfl,rfl,rfl,trivial⟩ ⟨rfl,trivial⟩ rfl)
     intro K22 ih23 d h
     obtain ⟨h,b25⟩:=h
     obtain ⟨x1,x5,x8,x11,x19,x20,x21,_⟩:=d
     dsimp only at h b25 ⊢
     cases K22 with
     | zero=>exact absurd h (by simp [P.aA.l2])
     | succ m24 =>
      simp only [P.aA.l2] at h
      refine bj (ae (ae (ab ?_)))
      iterate 2 refine o1 ?_
      refine aa ?_
      refine aM rfl (fun hb=>?_) (fun hb=>?_)
      ·skip
       obtain ⟨c26,h⟩:=tkT h hb
       have g27:=hb
       clear hb
       obtain ⟨q28,h⟩:=aj h
       obtain ⟨q29,h⟩:=aj h
       refine aN (ae (aK (ae (ab ?_))))
       iterate 7 refine o1 ?_
       refine aa (ae (ab ?_))
       iterate 6 refine o1 ?_
       refine aa (ab ?_)
       iterate 3 refine o1 ?_
       refine aa (ab ?_)
       iterate 3 refine o1 ?_
       refine aa ?_
       exact aP (ih23 m24 (by omega) (_,_,_,_,_,_,_,()) ⟨h,by omega⟩) ⟨rfl,rfl,rfl,rfl,rfl,rfl,rfl,trivial⟩ ⟨rfl,trivial⟩ rfl
      ·skip
       obtain ⟨c30,h⟩:=tkF h hb
       have g31:=hb
       clear hb
       refine bC (ab ?_)
       iterate 2 refine o1 ?_
       refine aa ?_
       exact aP (ih4 m24 (by omega) (_,_,_,_,_,()) h) ⟨rfl,rfl,rfl,rfl,rfl,trivial⟩ ⟨rfl,trivial⟩ rfl
  ·skip
   obtain ⟨c32,h⟩:=tkF h hb
   have g33:=hb
   clear hb
   refine bC (ae ?_)
   refine df (cD (k:=18) rfl) ?_
   refine ab ?_
   refine o1 ?_
   obtain ⟨t34,ht35,h⟩:=Option.bind_eq_some_iff.1 h
   refine opC (ai.v _ _ _ ht35) ?_
   refine o1 ?_
   refine aa ?_
   obtain rfl:=Option.some.inj h
   exact aV ⟨.inl rfl,.one (.tmp rt) rfl⟩
instance:FN Tryz.prog 97:=⟨⟨_,Tryz.func97,by decide,by simp [Tryz.f97]⟩⟩
set_option maxRecDepth 100000 in
set_option maxHeartbeats 4000000 in
theorem aJ.v (k:Nat) (l0:List Int) (l1:List Int) (r:List Int) (h:P.aJ.f k l0 l1=some r):Fn Tryz.prog 97 [.ints .i64 l0,.ints .i64 l1] (.ints .i64 r):=by
 refine bO Tryz.func97 rfl (Nat.le_of_ble_eq_true rfl) ?_
 intro X hX
 unfold P.aJ.f at h
 refine ae (ab ?_)
 refine o1 ?_
 refine aa (ae (ab ?_))
 refine cp rfl (mA 3 .i64 (.inr rfl) rfl rfl (ib hX (by decide))) ?_
 refine aa (ae (ab ?_))
 refine o1 ?_
 refine aa (ae (ae (ab ?_)))
 refine o1 ?_
 refine aa (aK (bK ?_))
 refine bN (D:=List Int×List Int×List Int×Int×Int×Unit) (fun d=>⟨look [(0,.ints .i64 d.1),(1,.ints .i64 d.2.1),(5,.own 5),(6,.int .i64 d.2.2.2.1),(7,.int .i64 d.2.2.2.2.1)],look [(5,dL 3 .i64 d.2.2.1)]⟩) (fun K_ d=>P.aJ.l0 K_ d.1 d.2.1 d.2.2.1 d.2.2.2.1 d.2.2.2.2.1=some r) ?_ _ (_,_,_,_,_,()) h (aX _ _ ⟨rfl,rfl,rfl,rfl,rfl,trivial⟩ ⟨rfl,trivial⟩ rfl)
 intro K1 ih2 d h
 obtain ⟨x0,x1,x5,x6,x7,_⟩:=d
 dsimp only at h ⊢
 cases K1 with
 | zero=>exact absurd h (by simp [P.aJ.l0])
 | succ m3 =>
  simp only [P.aJ.l0] at h
  refine bj (ae (ae ?_))
  refine ff (D:=Nat×List Int×List Int×List Int×Int×Int×Bool×Unit) (fun d=>⟨look [(0,.ints .i64 d.2.1),(1,.ints .i64 d.2.2.1),(5,.own 5),(6,.int .i64 d.2.2.2.2.1),(7,.int .i64 d.2.2.2.2.2.1),(21,.bool d.2.2.2.2.2.2.1)],look [(5,dL 3 .i64 d.2.2.2.1)]⟩) (fun d=>P.aJ.j1 d.1 d.2.1 d.2.2.1 d.2.2.2.1 d.2.2.2.2.1 d.2.2.2.2.2.1 d.2.2.2.2.2.2.1=some r∧d.1≤m3) ?_ ?_
  ·skip
   rintro ⟨kq4,x0,x1,x5,x6,x7,x21,_⟩ ⟨h,b5⟩
   dsimp only at h b5 ⊢
   cases kq4 with
   | zero=>exact absurd h (by simp [P.aJ.j1])
   | succ m6 =>
    simp only [P.aJ.j1] at h
    refine aM rfl (fun hb=>?_) (fun hb=>?_)
    ·skip
     obtain ⟨c7,h⟩:=tkT h hb
     have g8:=hb
     clear hb
     refine aN (ae (aK (ae (ae (ab ?_)))))
     iterate 4 refine o1 ?_
     refine aa ?_
     refine aM rfl (fun hb=>?_) (fun hb=>?_)
     ·skip
      obtain ⟨c9,h⟩:=tkT h hb
      have g10:=hb
      clear hb
      obtain ⟨q11,h⟩:=aj h
      refine ab ?_
      iterate 7 refine o1 ?_
      refine aa (ae (ae (ab ?_)))
      iterate 4 refine o1 ?_
      refine aa ?_
      refine aM rfl (fun hb=>?_) (fun hb=>?_)
      ·skip
       obtain ⟨c12,h⟩:=tkT h hb
       have g13:=hb
       clear hb
       obtain ⟨q14,h⟩:=aj h
       refine ab ?_
       iterate 7 refine o1 ?_
       refine aa (ae (ab ?_))
       iterate 6 refine o1 ?_
       refine aa (ab ?_)
       iterate 3 refine o1 ?_
       refine aa (ab ?_)
       iterate 3 refine o1 ?_
       refine aa ?_
       exact aP (ih2 m6 (by omega) (_,_,_,_,_,()) h) ⟨rfl,rfl,rfl,rfl,rfl,trivial⟩ ⟨rfl,trivial⟩ rfl
      ·skip
       obtain ⟨c15,h⟩:=tkF h hb
       have g16:=hb
       clear hb
       obtain ⟨q17,h⟩:=aj h
       refine aN (ae (ab ?_))
       iterate 6 refine o1 ?_
       refine aa (ab ?_)
       iterate 3 refine o1 ?_
       refine aa (ab ?_)
       iterate 3 refine o1 ?_
       refine aa ?_
       exact aP (ih2 m6 (by omega) (_,_,_,_,_,()) h) ⟨rfl,rfl,rfl,rfl,rfl,trivial⟩ ⟨rfl,trivial⟩ rfl
     ·skip
      obtain ⟨c18,h⟩:=tkF h hb
      have g19:=hb
      clear hb
      refine aN (ae (ae (ab ?_)))
      iterate 4 refine o1 ?_
      refine aa ?_
      refine aM rfl (fun hb=>?_) (fun hb=>?_)
      ·skip
       obtain ⟨c20,h⟩:=tkT h hb
       have g21:=hb
       clear hb
       obtain ⟨q22,h⟩:=aj h
       obtain ⟨q23,h⟩:=aj h
       refine ab ?_
       iterate 7 refine o1 ?_
       refine aa (ae (ab ?_))
       iterate 6 refine o1 ?_
       refine aa (ab ?_)
       iterate 3 refine o1 ?_
       refine aa (ab ?_)
       iterate 3 refine o1 ?_
       refine aa ?_
       exact aP (ih2 m6 (by omega) (_,_,_,_,_,()) h) ⟨rfl,rfl,rfl,rfl,rfl,trivial⟩ ⟨rfl,trivial⟩ rfl
      ·skip
       obtain ⟨c24,h⟩:=tkF h hb
       have g25:=hb
       clear hb
       obtain ⟨q26,h⟩:=aj h
       refine aN (ae (ab ?_))
       iterate 6 refine o1 ?_
       refine aa (ab ?_)
       iterate 3 refine o1 ?_
       refine aa (ab ?_)
       iterate 3 refine o1 ?_
       refine aa ?_
       exact aP (ih2 m6 (by omega) (_,_,_,_,_,()) h) ⟨rfl,rfl,rfl,rfl,rfl,trivial⟩ ⟨rfl,trivial⟩ rfl
    ·skip
     obtain ⟨c27,h⟩:=tkF h hb
     have g28:=hb
     clear hb
     refine bC (ae (ab ?_))
     iterate 2 refine o1 ?_
     refine aa ?_
     refine df (cD (k:=5) rfl) ?_
     obtain rfl:=Option.some.inj h
     exact aV ⟨.inl rfl,.one (.tmp rt) rfl⟩
  ·skip
   refine ab ?_
   iterate 5 refine o1 ?_
   refine og rfl rfl rfl rfl (fun hb=>?_) (fun hb=>?_)
   ·skip
    obtain ⟨c29,h⟩:=tkF h hb
    have g30:=hb
    clear hb
    iterate 4 refine oT ?_
    iterate 2 refine o1 ?_
    refine og rfl rfl rfl rfl (fun hb=>?_) (fun hb=>?_)
    ·skip
     obtain ⟨c31,h⟩:=tkF h hb
     have g32:=hb
     clear hb
     iterate 2 refine oT ?_
     refine o1 ?_
     refine aa ?_
     exact ⟨(m3,_,_,_,_,_,_,()),⟨h,by omega⟩,aX _ _ ⟨rfl,rfl,rfl,rfl,rfl,rfl,trivial⟩ ⟨rfl,trivial⟩ rfl⟩
    ·skip
     obtain ⟨c33,h⟩:=tkT h hb
     have g34:=hb
     clear hb
     iterate 2 refine opS ?_
     refine o1 ?_
     refine aa ?_
     exact ⟨(m3,_,_,_,_,_,_,()),⟨h,by omega⟩,aX _ _ ⟨rfl,rfl,rfl,rfl,rfl,rfl,trivial⟩ ⟨rfl,trivial⟩ rfl⟩
   ·skip
    obtain ⟨c35,h⟩:=tkT h hb
    have g36:=hb
    clear hb
    iterate 4 refine opS ?_
    iterate 2 refine o1 ?_
    iterate 2 refine opS ?_
    refine o1 ?_
    refine aa ?_
    exact ⟨(m3,_,_,_,_,_,_,()),⟨h,by omega⟩,aX _ _ ⟨rfl,rfl,rfl,rfl,rfl,rfl,trivial⟩ ⟨rfl,trivial⟩ rfl⟩
instance:FN Tryz.prog 145:=⟨⟨_,Tryz.func145,by decide,by simp [Tryz.f145]⟩⟩
set_option maxRecDepth 100000 in
set_option maxHeartbeats 4000000 in
theorem aT.v (k:Nat) (l0:List Int) (a1:Int) (r:List Int) (h:P.aT.f k l0 a1=some r):Fn Tryz.prog 145 [.ints .i64 l0,.int .i64 a1] (.ints .i64 r):=by
 refine bO Tryz.func145 rfl (Nat.le_of_ble_eq_true rfl) ?_
 intro X hX
 unfold P.aT.f at h
 refine ae (ab ?_)
 refine o1 ?_
 refine aa (ae (ab ?_))
 iterate 2 refine o1 ?_
 refine aa (ae (ae (ab ?_)))
 iterate 2 refine o1 ?_
 refine aa (aK (bK ?_))
 refine bN (D:=List Int×List Int×Int×Int×Unit) (fun d=>⟨look [(0,.ints .i64 d.1),(5,.ints .i64 d.2.1),(7,.int .i64 d.2.2.1),(8,.int .i64 d.2.2.2.1)],look []⟩) (fun K_ d=>P.aT.l0 K_ d.1 d.2.1 d.2.2.1 d.2.2.2.1=some r) ?_ _ (_,_,_,_,()) h (aX _ _ ⟨rfl,rfl,rfl,rfl,trivial⟩ trivial rfl)
 intro K1 ih2 d h
 obtain ⟨x0,x5,x7,x8,_⟩:=d
 dsimp only at h ⊢
 cases K1 with
 | zero=>exact absurd h (by simp [P.aT.l0])
 | succ m3 =>
  simp only [P.aT.l0] at h
  refine bj (ae (ab ?_))
  refine o1 ?_
  refine aa (ae ?_)
  refine aM rfl (fun hb=>?_) (fun hb=>?_)
  ·skip
   obtain ⟨c4,h⟩:=tkT h hb
   have g5:=hb
   clear hb
   refine aN (ae (aK (ab ?_)))
   iterate 2 refine o1 ?_
   obtain ⟨t6,ht7,h⟩:=Option.bind_eq_some_iff.1 h
   refine opC (aA.v _ _ _ _ ht7) ?_
   refine o1 ?_
   refine aa (ab ?_)
   iterate 2 refine o1 ?_
   refine aa ?_
   exact aP (ih2 m3 (by omega) (_,_,_,_,()) h) ⟨rfl,rfl,rfl,rfl,trivial⟩ trivial rfl
  ·skip
   obtain ⟨c8,h⟩:=tkF h hb
   have g9:=hb
   clear hb
   refine bC (ae (ab ?_))
   iterate 2 refine o1 ?_
   refine aa ?_
   obtain rfl:=Option.some.inj h
   exact aV ⟨.inl rfl,.one (.tmp rt) rfl⟩
end Go.Proofs.YtfbgaddecbiimaaGreatDoor.V
end
section
namespace Go.Proofs.YtfbgaddecbiimaaGreatDoor.E
open Go.RowKit Go.Proofs.YtfbgaddecbiimaaGreatDoorW.PrintWords Go.Proofs.YtfbgaddecbiimaaGreatDoorW.PrintMore Go.Proofs.YtfbgaddecbiimaaGreatDoor.V
set_option linter.unusedVariables false
noncomputable def fF:Orc T:=pJ (.list (.int .i64)) (.list (.int .i64)) (.list (.int .i64)) (fun k a0 a1=>P.aJ.f k a0 a1)
theorem gO:cI T (97,fF):=cZ rfl (FN.h (P:=Tryz.prog)) fun k a0 a1 r h=>by
 have q:=aJ.v k a0 a1 r h
 simp only [dj] at q
 exact ⟨_,rfl,q⟩
noncomputable def fE:Orc T:=pJ (.list (.int .i64)) (.list (.int .i64)) (.int .i64) (fun k a0 a1=>P.an.f k a0 a1)
theorem gN:cI T (98,fE):=cZ rfl (FN.h (P:=Tryz.prog)) fun k a0 a1 r h=>by
 have q:=an.v k a0 a1 r h
 simp only [dj] at q
 exact ⟨_,rfl,q⟩
noncomputable def eH:Orc T:=pJ (.list (.int .i64)) (.list (.int .i64)) (.pair (.list (.int .i64)) (.pair (.list (.int .i64)) .unit)) (fun k a0 a1=>(P.ay.f k a0 a1).map fun r=>(r.1,r.2,()))
theorem fU:cI T (147,eH):=cZ rfl (FN.h (P:=Tryz.prog)) fun k a0 a1 r h=>by
 obtain ⟨r1,h1,rfl⟩:=Option.map_eq_some_iff.1 h
 have q:=ay.v k a0 a1 r1 h1
 simp only [dj] at q
 exact ⟨_,rfl,q⟩
noncomputable def fD:Orc T:=pJ (.list (.int .i64)) (.list (.int .i64)) (.list (.int .i64)) (fun k a0 a1=>P.ak.f k a0 a1)
theorem gM:cI T (133,fD):=cZ rfl (FN.h (P:=Tryz.prog)) fun k a0 a1 r h=>by
 have q:=ak.v k a0 a1 r h
 simp only [dj] at q
 exact ⟨_,rfl,q⟩
noncomputable def fC:Orc T:=yq (.int .i64) (.list (.int .i64)) (fun k a0=>P.az.f k a0)
theorem gL:cI T (119,fC):=fW rfl (FN.h (P:=Tryz.prog)) fun k a0 r h=>by
 have q:=az.v k a0 r h
 simp only [dj] at q
 exact ⟨_,rfl,q⟩
noncomputable def fB:Orc T:=pJ (.list (.int .i64)) (.list (.int .i64)) (.list (.int .i64)) (fun k a0 a1=>P.aA.f k a0 a1)
theorem gK:cI T (95,fB):=cZ rfl (FN.h (P:=Tryz.prog)) fun k a0 a1 r h=>by
 have q:=aA.v k a0 a1 r h
 simp only [dj] at q
 exact ⟨_,rfl,q⟩
noncomputable def fA:Orc T:=pJ (.list (.int .i64)) (.int .i64) (.list (.int .i64)) (fun k a0 a1=>P.aT.f k a0 a1)
theorem gJ:cI T (145,fA):=cZ rfl (FN.h (P:=Tryz.prog)) fun k a0 a1 r h=>by
 have q:=aT.v k a0 a1 r h
 simp only [dj] at q
 exact ⟨_,rfl,q⟩
noncomputable def eW:Orc T:=orc3 (.list (.int .i64)) (.int .i64) (.int .i64) (.list (.int .i64)) (fun k a0 a1 a2=>P.ah.f k a0 a1 a2)
theorem gg:cI T (134,eW):=Ai rfl (FN.h (P:=Tryz.prog)) fun k a0 a1 a2 r h=>by
 have q:=ah.v k a0 a1 a2 r h
 simp only [dj] at q
 exact ⟨_,rfl,q⟩
noncomputable def fz:Orc T:=pJ (.list (.int .i64)) (.list (.int .i64)) (.list (.int .i64)) (fun k a0 a1=>P.aG.f k a0 a1)
theorem gH:cI T (99,fz):=cZ rfl (FN.h (P:=Tryz.prog)) fun k a0 a1 r h=>by
 have q:=aG.v k a0 a1 r h
 simp only [dj] at q
 exact ⟨_,rfl,q⟩
noncomputable def fh:Orc T:=yq (.list (.int .i64)) .str (fun k a0=>P.aw.f k a0)
theorem gw:cI T (127,fh):=fW rfl (FN.h (P:=Tryz.prog)) fun k a0 r h=>by
 have q:=aw.v k a0 r h
 simp only [dj] at q
 exact ⟨_,rfl,q⟩
noncomputable def eV:Orc T:=yq (.list (.int .u32)) .bool (fun k a0=>P.bB.f a0)
theorem gf:cI T (132,eV):=fW rfl (FN.h (P:=Tryz.prog)) fun k a0 r h=>by
 have q:=bB.v a0 r h
 simp only [dj] at q
 exact ⟨_,rfl,q⟩
noncomputable def eU:Orc T:=yq (.list (.int .i64)) (.list (.int .u32)) (fun k a0=>P.aI.f k a0)
theorem gd:cI T (118,eU):=fW rfl (FN.h (P:=Tryz.prog)) fun k a0 r h=>by
 have q:=aI.v k a0 r h
 simp only [dj] at q
 exact ⟨_,rfl,q⟩
noncomputable def oE:Orc T:=pJ (.list (.int .u32)) (.list (.int .u32)) (.list (.int .u32)) (fun k a0 a1=>P.cE.f k a0 a1)
theorem nu:cI T (141,oE):=cZ rfl (FN.h (P:=Tryz.prog)) fun k a0 a1 r h=>by
 have q:=cE.v k a0 a1 r h
 simp only [dj] at q
 exact ⟨_,rfl,q⟩
noncomputable def mR:Orc T:=yq (.list (.int .u32)) (.int .i64) (fun k a0=>P.fi.f a0)
theorem l5:cI T (184,mR):=fW rfl (FN.h (P:=Tryz.prog)) fun k a0 r h=>by
 have q:=fi.v a0 r h
 simp only [dj] at q
 exact ⟨_,rfl,q⟩
noncomputable def oD:Orc T:=pJ (.list (.int .u32)) (.list (.int .u32)) (.int .i64) (fun k a0 a1=>P.bQ.f k a0 a1)
theorem nq:cI T (138,oD):=cZ rfl (FN.h (P:=Tryz.prog)) fun k a0 a1 r h=>by
 have q:=bQ.v k a0 a1 r h
 simp only [dj] at q
 exact ⟨_,rfl,q⟩
noncomputable def ki:Orc T:=pJ (.list (.int .u32)) (.list (.int .u32)) (.pair (.list (.int .u32)) (.pair (.list (.int .u32)) .unit)) (fun k a0 a1=>(P.aC.f k a0 a1).map fun r=>(r.1,r.2,()))
theorem ks:cI T (160,ki):=cZ rfl (FN.h (P:=Tryz.prog)) fun k a0 a1 r h=>by
 obtain ⟨r1,h1,rfl⟩:=Option.map_eq_some_iff.1 h
 have q:=aC.v k a0 a1 r1 h1
 simp only [dj] at q
 exact ⟨_,rfl,q⟩
noncomputable def mQ:Orc T:=yq (.int .u64) (.list (.int .u32)) (fun k a0=>P.bw.f k a0)
theorem lZ:cI T (159,mQ):=fW rfl (FN.h (P:=Tryz.prog)) fun k a0 r h=>by
 have q:=bw.v k a0 r h
 simp only [dj] at q
 exact ⟨_,rfl,q⟩
noncomputable def oC:Orc T:=pJ (.list (.int .u32)) (.list (.int .u32)) (.list (.int .u32)) (fun k a0 a1=>P.bE.f k a0 a1)
theorem np:cI T (129,oC):=cZ rfl (FN.h (P:=Tryz.prog)) fun k a0 a1 r h=>by
 have q:=bE.v k a0 a1 r h
 simp only [dj] at q
 exact ⟨_,rfl,q⟩
noncomputable def oB:Orc T:=pJ (.list (.int .u32)) (.list (.int .u32)) (.list (.int .u32)) (fun k a0 a1=>P.bh.f k a0 a1)
theorem nk:cI T (139,oB):=cZ rfl (FN.h (P:=Tryz.prog)) fun k a0 a1 r h=>by
 have q:=bh.v k a0 a1 r h
 simp only [dj] at q
 exact ⟨_,rfl,q⟩
noncomputable def oA:Orc T:=pJ (.list (.int .u32)) (.int .i64) (.list (.int .u32)) (fun k a0 a1=>P.cd.f k a0 a1)
theorem nj:cI T (175,oA):=cZ rfl (FN.h (P:=Tryz.prog)) fun k a0 a1 r h=>by
 have q:=cd.v k a0 a1 r h
 simp only [dj] at q
 exact ⟨_,rfl,q⟩
noncomputable def oz:Orc T:=pJ (.list (.int .u32)) (.list (.int .u32)) (.list (.int .u32)) (fun k a0 a1=>P.cf.f k a0 a1)
theorem ni:cI T (142,oz):=cZ rfl (FN.h (P:=Tryz.prog)) fun k a0 a1 r h=>by
 have q:=cf.v k a0 a1 r h
 simp only [dj] at q
 exact ⟨_,rfl,q⟩
noncomputable def mP:Orc T:=yq (.list (.int .u32)) (.pair .str (.pair (.int .i64) .unit)) (fun k a0=>(P.bH.f k a0).map fun r=>(r.1,r.2,()))
theorem lY:cI T (121,mP):=fW rfl (FN.h (P:=Tryz.prog)) fun k a0 r h=>by
 obtain ⟨r1,h1,rfl⟩:=Option.map_eq_some_iff.1 h
 have q:=bH.v k a0 r1 h1
 simp only [dj] at q
 exact ⟨_,rfl,q⟩
noncomputable def lx:Orc T:=yq (.list (.int .u32)) .bool (fun k a0=>P.eI.f a0)
theorem lu:cI T (158,lx):=fW rfl (FN.h (P:=Tryz.prog)) fun k a0 r h=>by
 have q:=eI.v a0 r h
 simp only [dj] at q
 exact ⟨_,rfl,q⟩
noncomputable def dQ:Orc T:=pJ (.list (.int .u32)) (.list (.int .u32)) .bool (fun k a0 a1=>P.aL.f k a0 a1)
theorem eK:cI T (144,dQ):=cZ rfl (FN.h (P:=Tryz.prog)) fun k a0 a1 r h=>by
 have q:=aL.v k a0 a1 r h
 simp only [dj] at q
 exact ⟨_,rfl,q⟩
noncomputable def orcA:List (Nat×Orc T):=[(97,fF),(98,fE),(147,eH),(133,fD),(119,fC),(95,fB),(145,fA),(134,eW),(99,fz),(127,fh),(132,eV),(118,eU),(141,oE),(184,mR),(138,oD),(160,ki),(159,mQ),(129,oC),(139,oB),(175,oA),(142,oz),(121,mP),(158,lx),(144,dQ)]
theorem Ag:∀ x∈orcA,cI T x:=by
 simp only [orcA,List.mem_cons,List.not_mem_nil,or_false,forall_eq_or_imp,forall_eq]
 exact ⟨gO,gN,fU,gM,gL,gK,gJ,gg,gH,gw,gf,gd,nu,l5,nq,ks,lZ,np,nk,nj,ni,lY,lu,eK⟩
end Go.Proofs.YtfbgaddecbiimaaGreatDoor.E
end
section
namespace Go.Proofs.YtfbgaddecbiimaaGreatDoor.E
open Go.RowKit Go.Shelf
set_option linter.unusedVariables false
def blF:Nat→Nat
 | 169=>124
 | n=>n
def blT:Nat→Nat
 | 70=>138
 | 9=>9
 | 0=>0
 | 72=>140
 | 37=>32
 | 127=>181
 | 3=>3
 | 5=>5
 | n=>n
def blays:Ren:=⟨blF,blT,fun n=>n⟩
set_option maxRecDepth 100000 in
theorem blays_ok:Lays.n169 Tryz.prog blays :=
 { mixed:=Eq.refl true,f169:=Eq.trans Tryz.func124 (congrArg some (Eq.refl (Body.n169 blays))),t0:=Tryz.underlying0,a0:=Tryz.isAgg0,z0:=Tryz.sizeOf0,v0:=Tryz.zeroValue0,t3:=Tryz.underlying3,a3:=Tryz.isAgg3,z3:=Tryz.sizeOf3,v3:=Tryz.zeroValue3,t9:=Tryz.underlying9,a9:=Tryz.isAgg9,z9:=Tryz.sizeOf9,v9:=Tryz.zeroValue9,t37:=Tryz.underlying32,a37:=Tryz.isAgg32,z37:=Tryz.sizeOf32,v37:=Tryz.zeroValue32,t70:=Tryz.underlying138,a70:=Tryz.isAgg138,z70:=Tryz.sizeOf138,v70:=Tryz.zeroValue138,t72:=Tryz.underlying140,a72:=Tryz.isAgg140,z72:=Tryz.sizeOf140,v72:=Tryz.zeroValue140,t127:=Tryz.underlying181,a127:=Tryz.isAgg181,z127:=Tryz.sizeOf181,v127:=Tryz.zeroValue181 }
set_option maxRecDepth 100000 in
theorem bextra:Builder.Extra Tryz.prog blays where
 sizeBuilder:=by kernel_rfl
 liesBuilder:=by kernel_rfl
 t5:=Tryz.underlying5
 a5:=Tryz.isAgg5
 z5:=Tryz.sizeOf5
 v5:=Tryz.zeroValue5
 infoByte:=by kernel_rfl
 cellsByte:=by kernel_rfl
 sizeByte:=by kernel_rfl
 neB5:=by decide
theorem lI (B b:Nat) (l:List UInt8) (w:World) (h:Lib.IsBuilder 140 5 B b (Lib.byteCells l) w) (hBw:B≤w.heap.size) :
 Calls Tryz.prog 124 #[.pointer (some ⟨b,0,none⟩)] w fun e w'=>e = .returned (.string ⟨l.toArray⟩)∧Below B w w':=Any.Builder_String_any blays_ok bextra B b l w h hBw
theorem b_size:(Tryz.prog.info? 140).map (·.size)=some 2:=by kernel_rfl
theorem b_lies:liesAt Tryz.prog Tryz.prog.depth 140 (2 / Tryz.prog.cellsOf 140) 0 140 1=true:=by kernel_rfl
theorem b_byte:(Tryz.prog.info? 5).map (fun i=>(i.zero,i.size,i.bytes))=some (some (.int .u8 0),1,1):=by kernel_rfl
set_option maxHeartbeats 1000000 in
set_option maxRecDepth 100000 in
theorem tV (b:Nat) (w:World) (h0:w.cell? ⟨b,0,none⟩=some (.pointer (some ⟨b,0,none⟩))) :
 Calls Tryz.prog 157 #[.pointer (some ⟨b,0,none⟩)] w fun e w'=>e = .returned (.tuple #[])∧w'=w:=by
 obtain ⟨j,hj,_⟩:=Option.map_eq_some_iff.1 b_size
 go_enter Tryz.func157,Tryz.ntmps157
 go_wp2
 rw [Lib.run_neq_ptr_same w _ Tryz.underlying138 hj]
 go_wp2
 go_end0
 exact ⟨rfl,rfl⟩
set_option maxHeartbeats 1000000 in
set_option maxRecDepth 100000 in
theorem lJ (b:Nat) (w:World) (h0:w.cell? ⟨b,0,none⟩=some (.pointer none)) (hsh:w.shape? b=some (140,2)) (hfz:w.frozen? ⟨b,0,none⟩=false) :
 Calls Tryz.prog 157 #[.pointer (some ⟨b,0,none⟩)] w fun e w'=>e = .returned (.tuple #[])∧w'=w.setCell ⟨b,0,none⟩ (.pointer (some ⟨b,0,none⟩)):=by
 obtain ⟨j,hj,hjs⟩:=Option.map_eq_some_iff.1 b_size
 go_enter Tryz.func157,Tryz.ntmps157
 go_wp2
 rw [Lib.run_to_unsafe w ⟨b,0,none⟩ Tryz.underlying138 Tryz.underlying189 hj (by rw [hjs];decide) hsh (Nat.zero_lt_succ 1)]
 simp only [Result.andThen]
 rw [Oper.upon_value]
 go_wp2
 rw [run_callFunc_extern Tryz.func172 (by kernel_rfl) (by kernel_rfl) (by kernel_rfl) (e:=Extern.AbiNoEscape.same) (by kernel_rfl)]
 rw [Lib.run_noEscape]
 simp only [Result.andThen]
 rw [Oper.upon_value]
 go_wp2
 rw [Lib.run_from_unsafe w ⟨b,0,none⟩ Tryz.underlying189 Tryz.underlying138 hj hsh b_lies]
 simp only [Result.andThen]
 rw [Oper.upon_value]
 go_wp2
 go_end0
 exact ⟨rfl,rfl⟩
theorem Bv (B b:Nat) (bs:List Value) (w:World) (h:Lib.IsBuilder 140 5 B b bs w) :
 Calls Tryz.prog 157 #[.pointer (some ⟨b,0,none⟩)] w fun e w'=>e = .returned (.tuple #[])∧(Lib.BuilderAt 140 5 B b (.pointer (some ⟨b,0,none⟩)) bs w'∧Below B w w'):=by
 rcases h with h | h
 ·refine (lJ b w h.cell0 h.shape h.frozen0).mono ?_
  rintro e w' ⟨rfl,rfl⟩
  exact ⟨rfl,h.used _,(Below.refl B w).setCell (p:=⟨b,0,none⟩) h.1 _⟩
 ·refine (tV b w h.cell0).mono ?_
  rintro e w' ⟨rfl,rfl⟩
  exact ⟨rfl,h,Below.refl B _⟩
set_option maxHeartbeats 2000000 in
set_option maxRecDepth 100000 in
theorem qB (B b:Nat) (bs:List Value) (c:Int) (w:World) (h:Lib.IsBuilder 140 5 B b bs w) (hlen:bs.length+1≤140737488355328) (hBw:B≤w.heap.size) :
 Calls Tryz.prog 120 #[.pointer (some ⟨b,0,none⟩),.int .u8 c] w fun e w'=>e = .returned .nilIface∧(Lib.BuilderAt 140 5 B b (.pointer (some ⟨b,0,none⟩)) (bs++[.int .u8 c]) w'∧Below B w w'):=by
 obtain ⟨i0,hi,hz0,hz1,hz2⟩:=info_parts b_byte
 go_enter Tryz.func120,Tryz.ntmps120
 go_wp2_with (go_at_call 157;refine (Bv B b bs _ h).mono ?_)
 rintro e w1 ⟨rfl,h1,hb1⟩
 obtain ⟨hB,v,hbk,hown,hne⟩:=h1
 have c0:w1.cell? ⟨b,0,none⟩=some (.pointer (some ⟨b,0,none⟩)):=by rw [Lib.cell_of_heap hbk];rfl
 have c1:w1.cell? ⟨b,1,none⟩=some v:=by rw [Lib.cell_of_heap hbk];rfl
 go_wp2_with (at_builtin;refine wpList_append_own _ rfl _ _ 32 rfl B 5 i0 (.int .u8 0) 1 1 Tryz.underlying32 hi hz0 hz1 hz2 rfl (by decide) _ _ _ rfl (hown.alloc _) ⟨w1.heap.size,0,none⟩ 1 1 [.int .u8 c] rfl rfl ?c1 ?c2 ?c3 ?c4 ?c5 ?_)
 case c1 =>
  intro j u hj
  match j,hj with
  | 0,hj=>simp at hj;subst hj;simp [Addr.add]
 case c2=>intro u hu;simp at hu;subst hu;rfl
 case c3=>unfold maxLen;omega
 case c4=>omega
 case c5=>have:=hb1.size;simp;omega
 intro v' w2 hown' hgrow _
 have hlt:b<w1.heap.size:=by
  rcases Nat.lt_or_ge b w1.heap.size with h' | h'
  ·exact h'
  ·simp [Array.getElem?_eq_none h'] at hbk
 have hb2:w2.heap[b]?=some (.cells #[.pointer (some ⟨b,0,none⟩),v] 140 (0,0)):=by
  rw [hgrow.block b (by simp;omega) (fun e=>hne e.symm),Lib.alloc_old w1 _ b hlt]
  exact hbk
 have d0:w2.cell? ⟨b,0,none⟩=some (.pointer (some ⟨b,0,none⟩)):=by rw [Lib.cell_of_heap hb2];rfl
 have d1:w2.cell? ⟨b,1,none⟩=some v:=by rw [Lib.cell_of_heap hb2];rfl
 have f1:w2.frozen? ⟨b,1,none⟩=false:=Lib.frozen_of_heap hb2 1
 obtain ⟨g,cap,rfl⟩:∃ g cap,v' = .slice (some ⟨g,0,none⟩) (bs.length+1) cap:=by
  rcases hown'.2 with ⟨_,h0⟩ | ⟨g,cap,cur,hv,_⟩
  ·omega
  ·exact ⟨g,cap,hv⟩
 go_wp2
 go_ret
 refine ⟨rfl,?_,?_⟩
 ·exact Lib.BuilderAt.put (T:=140) (e:=5) hB hb2 (bs':=bs++[.int .u8 c]) (by simpa using hown') (by decide)
 ·exact ((hb1.alloc (by have:=hb1.size;omega) _).grown hgrow (by have:=hb1.size;simp;omega) (fun k hk=>(hown.lt k hk).1)).setCell (p:=⟨b,1,none⟩) hB _
set_option maxHeartbeats 2000000 in
set_option maxRecDepth 100000 in
theorem fq (B b:Nat) (bs:List Value) (s:ByteArray) (w:World) (h:Lib.IsBuilder 140 5 B b bs w) (hlen:bs.length+s.size≤140737488355328) (hBw:B≤w.heap.size) :
 Calls Tryz.prog 122 #[.pointer (some ⟨b,0,none⟩),.string s] w fun e w'=>e = .returned (.tuple #[.int .i64 s.size,.nilIface])∧(Lib.BuilderAt 140 5 B b (.pointer (some ⟨b,0,none⟩)) (bs++Lib.strCells s) w'∧Below B w w'):=by
 obtain ⟨i0,hi,hz0,hz1,hz2⟩:=info_parts b_byte
 go_enter Tryz.func122,Tryz.ntmps122
 go_wp2_with (go_at_call 157;refine (Bv B b bs _ h).mono ?_)
 rintro e w1 ⟨rfl,h1,hb1⟩
 obtain ⟨hB,v,hbk,hown,hne⟩:=h1
 have c0:w1.cell? ⟨b,0,none⟩=some (.pointer (some ⟨b,0,none⟩)):=by rw [Lib.cell_of_heap hbk];rfl
 have c1:w1.cell? ⟨b,1,none⟩=some v:=by rw [Lib.cell_of_heap hbk];rfl
 go_wp2_with (at_builtin;refine Lib.wpList_append_own_string _ rfl _ _ 32 9 rfl B 5 i0 Tryz.underlying32 Tryz.underlying9 hi hz0 hz1 hz2 _ _ _ rfl hown s rfl ?c3 ?c4 ?c5 ?_)
 case c3=>unfold maxLen;omega
 case c4=>omega
 case c5=>have:=hb1.size;omega
 intro v' w2 hown' hgrow _
 have hlt:b<w1.heap.size:=by
  rcases Nat.lt_or_ge b w1.heap.size with h' | h'
  ·exact h'
  ·simp [Array.getElem?_eq_none h'] at hbk
 have hb2:w2.heap[b]?=some (.cells #[.pointer (some ⟨b,0,none⟩),v] 140 (0,0)):=by
  rw [hgrow.block b hlt (fun e=>hne e.symm)]
  exact hbk
 have d0:w2.cell? ⟨b,0,none⟩=some (.pointer (some ⟨b,0,none⟩)):=by rw [Lib.cell_of_heap hb2];rfl
 have d1:w2.cell? ⟨b,1,none⟩=some v:=by rw [Lib.cell_of_heap hb2];rfl
 have f1:w2.frozen? ⟨b,1,none⟩=false:=Lib.frozen_of_heap hb2 1
 obtain ⟨ao,n',cap,rfl⟩:∃ ao n' cap,v' = .slice ao n' cap:=by
  rcases hown'.2 with ⟨hv,_⟩ | ⟨g,cap,cur,hv,_⟩
  ·exact ⟨_,_,_,hv⟩
  ·exact ⟨_,_,_,hv⟩
 go_wp2
 go_ret2
 refine ⟨rfl,?_,?_⟩
 ·exact Lib.BuilderAt.put (T:=140) (e:=5) hB hb2 (bs':=bs++Lib.strCells s) (by simpa [Lib.strCells_length] using hown') (by decide)
 ·exact (hb1.grown hgrow (by have:=hb1.size;omega) (fun k hk=>(hown.lt k hk).1)).setCell (p:=⟨b,1,none⟩) hB _
end Go.Proofs.YtfbgaddecbiimaaGreatDoor.E
end
