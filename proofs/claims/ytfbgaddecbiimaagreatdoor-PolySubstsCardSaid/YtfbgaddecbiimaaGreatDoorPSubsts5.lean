/- An evaluator of the program's code, what its functions come to, and what they mean: text 5. No condition. -/
import Init
import Derived.SizedLaws
import Derived.ChangeSlices
import Derived.Test.YtfbgaddecbiimaaGreatDoorRows
import Derived.Test.YtfbgaddecbiimaaGreatDoorCards
import Derived.Test.YtfbgaddecbiimaaGreatDoorTie
import Derived.ProofKit
import Derived.OpenShut
import Derived.ShutString
import Derived.ChangeOld
import Derived.ChangeSame
import Derived.ChangeVars
import Derived.JoinedOf
import Derived.LaidLaws
import Derived.SevenTiedAt
import Derived.Test.YtfbgaddecbiimaaGreatDoorPSubsts4
set_option linter.unusedSimpArgs false
set_option linter.unusedSectionVars false
set_option linter.unusedVariables false
set_option maxRecDepth 100000
set_option maxHeartbeats 4000000
section
namespace Go.Proofs.YtfbgaddecbiimaaGreatDoor.Q
open Go.RowKit Go.Proofs.YtfbgaddecbiimaaGreatDoorW.PrintWords Go.Proofs.YtfbgaddecbiimaaGreatDoorW.PrintMore Go.Proofs.YtfbgaddecbiimaaGreatDoor.V Go.Proofs.YtfbgaddecbiimaaGreatDoor.E
abbrev ah:=List Int×bJ×Unit
abbrev aA:=Int×List ah×Unit
noncomputable def ig (k:Nat) (a0:aA) (a1:aA) (a2:Int):Option Bool:=fn T dU k 9 [.v ai a0,.v ai a1,.v (.int .i64) a2]
noncomputable def gR (k:Nat):Option Bool:=fn T dU k 12 []
noncomputable def bB (k:Nat) (a0:aA):Option Bool:=fn T dU k 17 [.v ai a0]
noncomputable def il (k:Nat) (a0:aA):Option Bool:=fn T dU k 19 [.v ai a0]
noncomputable def fI (k:Nat) (a0:aA) (a1:List ah) (a2:Int):Option Bool:=fn T dU k 20 [.v ai a0,.v (.list af) a1,.v (.int .i64) a2]
noncomputable def bb (k:Nat) (a0:List ah) (a1:List ah):Option (List ah):=fn T dU k 21 [.v (.list af) a0,.v (.list af) a1]
noncomputable def bL (k:Nat) (a0:aA):Option (List ah):=fn T dU k 22 [.v ai a0]
noncomputable def bh (k:Nat) (a0:aA) (a1:Int) (a2:Int) (a3:Int):Option Bool:=fn T dU k 23 [.v ai a0,.v (.int .i64) a1,.v (.int .i64) a2,.v (.int .i64) a3]
noncomputable def bA (k:Nat) (a0:List ah):Option Int:=fn T dU k 25 [.v (.list af) a0]
noncomputable def iP (k:Nat):Option bJ:=fn T dU k 27 []
noncomputable def cH (k:Nat) (a0:List ah) (a1:Int):Option (List ah):=fn T dU k 28 [.v (.list af) a0,.v (.int .i64) a1]
noncomputable def jk (k:Nat) (a0:bJ):Option bJ:=fn T dU k 30 [.v aq a0]
noncomputable def gg (k:Nat) (a0:bJ) (a1:bJ):Option bJ:=fn T dU k 36 [.v au a0,.v au a1]
noncomputable def iQ (k:Nat) (a0:bJ) (a1:bJ):Option bJ:=fn T dU k 37 [.v au a0,.v au a1]
noncomputable def fJ (k:Nat) (a0:bJ):Option (List ah):=fn T dU k 40 [.v au a0]
noncomputable def bR (k:Nat) (a0:List ah) (a1:Int):Option Int:=fn T dU k 45 [.v (.list af) a0,.v (.int .i64) a1]
noncomputable def bH (k:Nat) (a0:List ah) (a1:Int) (a2:Int):Option (List ah):=fn T dU k 48 [.v (.list af) a0,.v (.int .i64) a1,.v (.int .i64) a2]
noncomputable def cI (k:Nat) (a0:List ah) (a1:List ah):Option (List ah):=fn T dU k 52 [.v (.list af) a0,.v (.list af) a1]
noncomputable def aK (k:Nat) (a0:aA) (a1:aA):Option Bool:=fn T dU k 55 [.v ai a0,.v ai a1]
noncomputable def cF (k:Nat) (a0:aA) (a1:Int) (a2:aA):Option (aA×Int×Unit):=fn T dU k 56 [.v ai a0,.v (.int .i64) a1,.v ai a2]
noncomputable def cn (k:Nat) (a0:List ah) (a1:Int) (a2:List ah):Option (List ah):=fn T dU k 57 [.v (.list af) a0,.v (.int .i64) a1,.v (.list af) a2]
noncomputable def aQ (k:Nat) (a0:List ah) (a1:Int):Option aA:=fn T dU k 60 [.v (.list af) a0,.v (.int .i64) a1]
noncomputable def aT (k:Nat) (a0:aA):Option Bool:=fn T dU k 62 [.v ai a0]
noncomputable def fi (k:Nat) (a0:bJ):Option bJ:=fn T dU k 63 [.v au a0]
noncomputable def l7 (k:Nat) (a0:bJ) (a1:Int):Option Bool:=fn T dU k 70 [.v aq a0,.v (.int .i64) a1]
noncomputable def iB (k:Nat) (a0:bJ):Option Int:=fn T dU k 71 [.v aq a0]
noncomputable def fb (k:Nat) (a0:List Int) (a1:List Int):Option Int:=fn T dU k 72 [.v (.list (.int .i64)) a0,.v (.list (.int .i64)) a1]
noncomputable def fe (k:Nat) (a0:bJ) (a1:Int):Option Bool:=fn T dU k 73 [.v aq a0,.v (.int .i64) a1]
noncomputable def pR (k:Nat) (a0:aA) (a1:aA):Option Int:=fn T dU k 74 [.v ai a0,.v ai a1]
noncomputable def ki (k:Nat) (a0:aA) (a1:aA):Option (aA×Int×Unit):=fn T dU k 75 [.v ai a0,.v ai a1]
noncomputable def ba (k:Nat) (a0:List ah) (a1:ah):Option (List ah):=fn T dU k 76 [.v (.list af) a0,.v af a1]
noncomputable def bP (k:Nat) (a0:List ah) (a1:List Int) (a2:bJ):Option (List ah):=fn T dU k 77 [.v (.list af) a0,.v (.arr 8 (.int .i64)) a1,.v au a2]
noncomputable def dw (k:Nat) (a0:bJ) (a1:Int):Option Bool:=fn T dU k 78 [.v aq a0,.v (.int .i64) a1]
noncomputable def bZ (k:Nat) (a0:List Int):Option Int:=fn T dU k 80 [.v (.arr 8 (.int .i64)) a0]
noncomputable def fQ (k:Nat) (a0:bJ):Option Int:=fn T dU k 81 [.v au a0]
noncomputable def fK (k:Nat) (a0:bJ):Option Bool:=fn T dU k 83 [.v aq a0]
noncomputable def bQ (k:Nat) (a0:List Int):Option (List Int):=fn T dU k 84 [.v (.list (.int .u32)) a0]
noncomputable def jc (k:Nat) (a0:aA):Option (aA×Int×Unit):=fn T dU k 91 [.v ai a0]
noncomputable def fp (k:Nat) (a0:bJ) (a1:bJ):Option Bool:=fn T dU k 92 [.v aq a0,.v aq a1]
noncomputable def im (k:Nat):Option bJ:=fn T dU k 93 []
noncomputable def ax (k:Nat) (a0:List Int) (a1:List Int):Option (List Int):=fn T dU k 95 [.v (.list (.int .i64)) a0,.v (.list (.int .i64)) a1]
noncomputable def eJ (k:Nat) (a0:Bool) (a1:List Int) (a2:List Int):Option bJ:=fn T dU k 96 [.v .bool a0,.v (.list (.int .i64)) a1,.v (.list (.int .i64)) a2]
noncomputable def az (k:Nat) (a0:List Int) (a1:List Int):Option (List Int):=fn T dU k 97 [.v (.list (.int .i64)) a0,.v (.list (.int .i64)) a1]
noncomputable def aJ (k:Nat) (a0:List Int) (a1:List Int):Option Int:=fn T dU k 98 [.v (.list (.int .i64)) a0,.v (.list (.int .i64)) a1]
noncomputable def aN (k:Nat) (a0:List Int) (a1:List Int):Option (List Int):=fn T dU k 99 [.v (.list (.int .i64)) a0,.v (.list (.int .i64)) a1]
noncomputable def eG (k:Nat) (a0:aA):Option Int:=fn T dU k 100 [.v ai a0]
noncomputable def pS (k:Nat) (a0:Int) (a1:bJ):Option aA:=fn T dU k 102 [.v (.int .i64) a0,.v aq a1]
noncomputable def k8 (k:Nat) (a0:aA) (a1:Int):Option Int:=fn T dU k 103 [.v ai a0,.v (.int .i64) a1]
noncomputable def dV (k:Nat) (a0:aA) (a1:Int):Option Int:=fn T dU k 104 [.v ai a0,.v (.int .i64) a1]
noncomputable def eY (k:Nat) (a0:aA) (a1:Int) (a2:Int):Option aA:=fn T dU k 105 [.v ai a0,.v (.int .i64) a1,.v (.int .i64) a2]
noncomputable def vO (k:Nat) (a0:Int):Option aA:=fn T dU k 111 [.v (.int .i64) a0]
noncomputable def zB (k:Nat):Option bJ:=fn T dU k 112 []
noncomputable def dI (k:Nat) (a0:aA) (a1:aA):Option aA:=fn T dU k 113 [.v ai a0,.v ai a1]
noncomputable def bK (k:Nat) (a0:List Int) (a1:List Int):Option Bool:=fn T dU k 117 [.v (.arr 8 (.int .i64)) a0,.v (.arr 8 (.int .i64)) a1]
noncomputable def aE (k:Nat) (a0:List Int):Option (List Int):=fn T dU k 118 [.v (.list (.int .i64)) a0]
noncomputable def jD (k:Nat) (a0:List Int) (a1:Int):Option Bool:=fn T dU k 128 [.v (.list (.int .u32)) a0,.v (.int .i64) a1]
noncomputable def cd (k:Nat) (a0:List Int) (a1:List Int):Option (List Int):=fn T dU k 129 [.v (.list (.int .u32)) a0,.v (.list (.int .u32)) a1]
noncomputable def fP (k:Nat) (a0:aA) (a1:aA):Option aA:=fn T dU k 130 [.v ai a0,.v ai a1]
noncomputable def bS (k:Nat) (a0:List Int):Option Bool:=fn T dU k 132 [.v (.list (.int .u32)) a0]
noncomputable def ay (k:Nat) (a0:List Int) (a1:List Int):Option (List Int):=fn T dU k 133 [.v (.list (.int .i64)) a0,.v (.list (.int .i64)) a1]
noncomputable def aw (k:Nat) (a0:List Int) (a1:Int) (a2:Int):Option (List Int):=fn T dU k 134 [.v (.list (.int .i64)) a0,.v (.int .i64) a1,.v (.int .i64) a2]
noncomputable def gC (k:Nat) (a0:bJ) (a1:bJ):Option bJ:=fn T dU k 90 [.v aq a0,.v aq a1]
noncomputable def oO (k:Nat):Option bJ:=fn T dU k 135 []
noncomputable def sb (k:Nat) (a0:bJ) (a1:bJ):Option bJ:=fn T dU k 136 [.v aq a0,.v aq a1]
noncomputable def gO (k:Nat) (a0:aA):Option aA:=fn T dU k 143 [.v ai a0]
noncomputable def aB (k:Nat) (a0:List Int) (a1:List Int):Option Bool:=fn T dU k 144 [.v (.list (.int .u32)) a0,.v (.list (.int .u32)) a1]
noncomputable def aF (k:Nat) (a0:List Int) (a1:List Int):Option (List Int×List Int×Unit):=fn T dU k 147 [.v (.list (.int .i64)) a0,.v (.list (.int .i64)) a1]
noncomputable def fO (k:Nat) (a0:List Int):Option Int:=fn T dU k 149 [.v (.list (.int .i64)) a0]
noncomputable def se (k:Nat) (a0:bJ):Option bJ:=fn T dU k 150 [.v aq a0]
noncomputable def Fv (k:Nat) (a0:Int):Option bJ:=fn T dU k 151 [.v (.int .i64) a0]
noncomputable def cR (k:Nat) (a0:aA) (a1:ah):Option aA:=fn T dU k 155 [.v ai a0,.v aj a1]
noncomputable def bf (k:Nat) (a0:Int) (a1:List ah):Option aA:=fn T dU k 167 [.v (.int .i64) a0,.v (.list aj) a1]
noncomputable def dP (k:Nat) (a0:List Int) (a1:List Int):Option Int:=fn T dU k 138 [.v (.list (.int .u32)) a0,.v (.list (.int .u32)) a1]
noncomputable def bI (k:Nat) (a0:List Int) (a1:List Int):Option (List Int):=fn T dU k 139 [.v (.list (.int .u32)) a0,.v (.list (.int .u32)) a1]
noncomputable def eo (k:Nat) (a0:Bool) (a1:List Int) (a2:List Int):Option bJ:=fn T dU k 140 [.v .bool a0,.v (.list (.int .u32)) a1,.v (.list (.int .u32)) a2]
noncomputable def di (k:Nat) (a0:List Int) (a1:List Int):Option (List Int):=fn T dU k 141 [.v (.list (.int .u32)) a0,.v (.list (.int .u32)) a1]
noncomputable def dJ (k:Nat) (a0:List Int) (a1:List Int):Option (List Int):=fn T dU k 142 [.v (.list (.int .u32)) a0,.v (.list (.int .u32)) a1]
noncomputable def dm (k:Nat) (a0:Int):Option (List Int):=fn T dU k 159 [.v (.int .u64) a0]
noncomputable def gZ (k:Nat) (a0:List Int):Option ByteArray:=fn T dU k 186 [.v (.list (.int .i64)) a0]
noncomputable def aI (k:Nat) (a0:List Int) (a1:List Int):Option (List Int×List Int×Unit):=fn T dU k 160 [.v (.list (.int .u32)) a0,.v (.list (.int .u32)) a1]
noncomputable def bB.l0 (k m0:Nat) (x23:List ah) (x24:Int) (x25:Int) (r1:aA):Option Bool:=nK T dU k 17 Tryz.f17 none [1,1,0,1,0] m0 [] ⟨[(1,.po 1 0 []),(23,.v (.list aj) x23),(24,.v (.int .i64) x24),(25,.v (.int .i64) x25)],[(1,.box 24 ai r1)]⟩
noncomputable def bB.l1 (k m1:Nat) (m0:Nat) (x3:Int) (x5:Int) (x23:List ah) (x24:Int) (x25:Int) (x49:List Int) (x50:Int) (x51:Int) (r1:aA) (r4:ah):Option Bool:=nK T dU k 17 Tryz.f17 none [1,1,0,1,0,0,1,1,0,0,1,1,1,0,1,0] m1 [m0] ⟨[(1,.po 1 0 []),(3,.v (.int .i64) x3),(4,.po 4 0 []),(5,.v (.int .i64) x5),(23,.v (.list aj) x23),(24,.v (.int .i64) x24),(25,.v (.int .i64) x25),(49,.v (.list (.int .i64)) x49),(50,.v (.int .i64) x50),(51,.v (.int .i64) x51)],[(1,.box 24 ai r1),(4,.box 96 aj r4)]⟩
noncomputable def bb.l0 (k m0:Nat) (x1:List ah) (x10:List ah) (x11:Int) (x12:Int) (r5:List ah):Option (List ah):=nK T dU k 21 Tryz.f21 none [1,1,0,1,0] m0 [] ⟨[(1,.v (.list af) x1),(5,.own 5),(10,.v (.list af) x10),(11,.v (.int .i64) x11),(12,.v (.int .i64) x12)],[(5,.arr 53 af r5)]⟩
noncomputable def bb.l1 (k m1:Nat) (m0:Nat) (x1:List ah) (x10:List ah) (x11:Int) (x12:Int) (x18:List ah) (x19:Int) (x20:Int) (r5:List ah):Option (List ah):=nK T dU k 21 Tryz.f21 none [1,1,0,1,0,0,1,1,0,0,1,1,0] m1 [m0] ⟨[(1,.v (.list af) x1),(5,.own 5),(10,.v (.list af) x10),(11,.v (.int .i64) x11),(12,.v (.int .i64) x12),(18,.v (.list af) x18),(19,.v (.int .i64) x19),(20,.v (.int .i64) x20)],[(5,.arr 53 af r5)]⟩
noncomputable def bL.l0 (k m0:Nat) (x8:List ah) (x9:Int) (x10:Int) (r3:List ah):Option (List ah):=nK T dU k 22 Tryz.f22 none [1,1,0,1,0] m0 [] ⟨[(3,.own 3),(8,.v (.list aj) x8),(9,.v (.int .i64) x9),(10,.v (.int .i64) x10)],[(3,.arr 53 af r3)]⟩
noncomputable def bh.l0 (k m0:Nat) (x2:Int) (x3:Int) (x27:List ah) (x28:Int) (x29:Int) (r4:aA):Option Bool:=nK T dU k 23 Tryz.f23 none [1,1,0,1,0] m0 [] ⟨[(2,.v (.int .i64) x2),(3,.v (.int .i64) x3),(4,.po 4 0 []),(27,.v (.list aj) x27),(28,.v (.int .i64) x28),(29,.v (.int .i64) x29)],[(4,.box 24 ai r4)]⟩
noncomputable def bA.l0 (k m0:Nat) (x3:Int) (x6:List ah) (x7:Int) (x8:Int):Option Int:=nK T dU k 25 Tryz.f25 none [1,1,0,1,0] m0 [] ⟨[(3,.v (.int .i64) x3),(6,.v (.list af) x6),(7,.v (.int .i64) x7),(8,.v (.int .i64) x8)],[]⟩
noncomputable def cH.l0 (k m0:Nat) (x0:List ah) (x5:List ah) (x8:Int) (x9:Int):Option (List ah):=nK T dU k 28 Tryz.f28 none [1,1,0,1,0] m0 [] ⟨[(0,.v (.list af) x0),(5,.v (.list af) x5),(8,.v (.int .i64) x8),(9,.v (.int .i64) x9)],[]⟩
noncomputable def bR.l0 (k m0:Nat) (x1:Int) (x5:Int) (x8:List ah) (x9:Int) (x10:Int):Option Int:=nK T dU k 45 Tryz.f45 none [1,1,0,1,0] m0 [] ⟨[(1,.v (.int .i64) x1),(5,.v (.int .i64) x5),(8,.v (.list af) x8),(9,.v (.int .i64) x9),(10,.v (.int .i64) x10)],[]⟩
noncomputable def bH.l0 (k m0:Nat) (x1:Int) (x2:Int) (x10:List ah) (x11:Int) (x12:Int) (r7:List ah):Option (List ah):=nK T dU k 48 Tryz.f48 none [1,1,0,1,0] m0 [] ⟨[(1,.v (.int .i64) x1),(2,.v (.int .i64) x2),(7,.own 7),(10,.v (.list af) x10),(11,.v (.int .i64) x11),(12,.v (.int .i64) x12)],[(7,.arr 53 af r7)]⟩
noncomputable def cI.l0 (k m0:Nat) (x11:List ah) (x12:Int) (x13:Int) (r8:List ah):Option (List ah):=nK T dU k 52 Tryz.f52 none [1,1,0,1,0] m0 [] ⟨[(5,.own 8),(11,.v (.list af) x11),(12,.v (.int .i64) x12),(13,.v (.int .i64) x13)],[(8,.arr 53 af r8)]⟩
noncomputable def aK.l0 (k m0:Nat) (x24:List ah) (x25:Int) (x26:Int) (r3:aA):Option Bool:=nK T dU k 55 Tryz.f55 none [1,1,0,1,0] m0 [] ⟨[(3,.po 3 0 []),(24,.v (.list aj) x24),(25,.v (.int .i64) x25),(26,.v (.int .i64) x26)],[(3,.box 24 ai r3)]⟩
noncomputable def aK.l1 (k m1:Nat) (m0:Nat) (x24:List ah) (x25:Int) (x26:Int) (x53:Int) (x54:Int) (r3:aA) (r6:ah) (r7:ah):Option Bool:=nK T dU k 55 Tryz.f55 none [1,1,0,1,0,0,1,1,0,0,1,1,1,1,0] m1 [m0] ⟨[(3,.po 3 0 []),(6,.po 6 0 []),(7,.po 7 0 []),(24,.v (.list aj) x24),(25,.v (.int .i64) x25),(26,.v (.int .i64) x26),(53,.v (.int .i64) x53),(54,.v (.int .i64) x54)],[(3,.box 24 ai r3),(6,.box 96 aj r6),(7,.box 96 aj r7)]⟩
noncomputable def cF.l0 (k m0:Nat) (x1:Int) (x11:Int) (r3:aA) (r5:aA) (r6:aA) (r9:aA) (r10:aA):Option (aA×Int×Unit):=nK T dU k 56 Tryz.f56 none [1,1,1,1,1,1,0,1,0] m0 [] ⟨[(1,.v (.int .i64) x1),(3,.po 3 0 []),(5,.po 5 0 []),(6,.po 6 0 []),(9,.po 9 0 []),(10,.po 10 0 []),(11,.v (.int .i64) x11)],[(3,.box 24 ai r3),(5,.box 24 ai r5),(6,.box 24 ai r6),(9,.box 24 ai r9),(10,.box 24 ai r10)]⟩
noncomputable def cn.l0 (k m0:Nat) (x0:List ah) (x1:Int) (x2:List ah) (x7:List ah) (x8:Int):Option (List ah):=nK T dU k 57 Tryz.f57 none [1,1,0,1,0] m0 [] ⟨[(0,.v (.list af) x0),(1,.v (.int .i64) x1),(2,.v (.list af) x2),(7,.v (.list af) x7),(8,.v (.int .i64) x8)],[]⟩
noncomputable def aQ.l0 (k m0:Nat) (x0:List ah) (x1:Int) (x16:Int) (x17:Int) (r4:aA) (q5_0:Int) (r11:List ah) (r14:List Bool):Option aA:=nK T dU k 60 Tryz.f60 none [1,1,1,0,1,0] m0 [] ⟨[(0,.v (.list af) x0),(1,.v (.int .i64) x1),(4,.po 4 0 []),(5,.po 2000005 0 []),(6,.own 14),(16,.v (.int .i64) x16),(17,.v (.int .i64) x17)],[(4,.box 24 ai r4),(2000005,.obox 24 [.v (.int .i64) q5_0,.own 11]),(11,.arr 96 aj r11),(14,.arr 4 .bool r14)]⟩
noncomputable def aQ.l1 (k m1:Nat) (m0:Nat) (x0:List ah) (x1:Int) (x7:Int) (x16:Int) (x17:Int) (x19:List ah) (x20:Int) (x21:Int) (r4:aA) (q5_0:Int) (r11:List ah) (r14:List Bool):Option aA:=nK T dU k 60 Tryz.f60 none [1,1,1,0,1,0,0,1,1,0,0,1,0,1,0] m1 [m0] ⟨[(0,.v (.list af) x0),(1,.v (.int .i64) x1),(4,.po 4 0 []),(5,.po 2000005 0 []),(6,.own 14),(7,.v (.int .i64) x7),(16,.v (.int .i64) x16),(17,.v (.int .i64) x17),(19,.v (.list af) x19),(20,.v (.int .i64) x20),(21,.v (.int .i64) x21)],[(4,.box 24 ai r4),(2000005,.obox 24 [.v (.int .i64) q5_0,.own 11]),(11,.arr 96 aj r11),(14,.arr 4 .bool r14)]⟩
noncomputable def aT.l0 (k m0:Nat) (x24:List ah) (x25:Int) (x26:Int) (r1:aA) (r3:List Int):Option Bool:=nK T dU k 62 Tryz.f62 none [1,1,1,0,1,0] m0 [] ⟨[(1,.po 1 0 []),(3,.po 3 0 []),(24,.v (.list aj) x24),(25,.v (.int .i64) x25),(26,.v (.int .i64) x26)],[(1,.box 24 ai r1),(3,.box 47 (.arr 8 (.int .i64)) r3)]⟩
noncomputable def aT.l1 (k m1:Nat) (m0:Nat) (x4:Int) (x24:List ah) (x25:Int) (x26:Int) (x57:List Int) (x58:Int) (x59:Int) (r1:aA) (r3:List Int) (r6:List Int):Option Bool:=nK T dU k 62 Tryz.f62 none [1,1,1,0,1,0,0,1,1,0,0,1,1,1,0,1,0] m1 [m0] ⟨[(1,.po 1 0 []),(3,.po 3 0 []),(4,.v (.int .i64) x4),(6,.po 6 0 []),(24,.v (.list aj) x24),(25,.v (.int .i64) x25),(26,.v (.int .i64) x26),(57,.v (.list (.int .i64)) x57),(58,.v (.int .i64) x58),(59,.v (.int .i64) x59)],[(1,.box 24 ai r1),(3,.box 47 (.arr 8 (.int .i64)) r3),(6,.box 47 (.arr 8 (.int .i64)) r6)]⟩
noncomputable def fb.l0 (k m0:Nat) (x1:List Int) (x7:List Int) (x8:Int) (x9:Int):Option Int:=nK T dU k 72 Tryz.f72 none [1,0,1,0] m0 [] ⟨[(1,.v (.list (.int .i64)) x1),(7,.v (.list (.int .i64)) x7),(8,.v (.int .i64) x8),(9,.v (.int .i64) x9)],[]⟩
noncomputable def ba.l0 (k m0:Nat) (x10:List ah) (x11:Int) (x12:Int) (r3:ah) (r5:List ah):Option (List ah):=nK T dU k 76 Tryz.f76 none [1,1,0,1,0] m0 [] ⟨[(3,.po 3 0 []),(5,.own 5),(10,.v (.list af) x10),(11,.v (.int .i64) x11),(12,.v (.int .i64) x12)],[(3,.box 53 af r3),(5,.arr 53 af r5)]⟩
noncomputable def ba.l1 (k m1:Nat) (m0:Nat) (x10:List ah) (x11:Int) (x12:Int) (x18:Int) (r3:ah) (r5:List ah) (r7:ah) (r8:List Int):Option (List ah):=nK T dU k 76 Tryz.f76 none [1,1,0,1,0,0,1,1,0,0,1,1,0,1,0] m1 [m0] ⟨[(3,.po 3 0 []),(5,.own 5),(7,.po 7 0 []),(8,.po 8 0 []),(10,.v (.list af) x10),(11,.v (.int .i64) x11),(12,.v (.int .i64) x12),(18,.v (.int .i64) x18)],[(3,.box 53 af r3),(5,.arr 53 af r5),(7,.box 53 af r7),(8,.box 47 (.arr 8 (.int .i64)) r8)]⟩
noncomputable def bP.l0 (k m0:Nat) (x14:Int) (x15:Int) (rl:List ah) (r4:List Int) (r5:bJ):Option (List ah):=nK T dU k 77 Tryz.f77 (some (53,.unit)) [1,1,0,1,0] m0 [] ⟨[(0,.own 1000000),(4,.po 4 0 []),(5,.po 5 0 []),(14,.v (.int .i64) x14),(15,.v (.int .i64) x15)],[(bY,.arr 53 af rl),(4,.box 47 (.arr 8 (.int .i64)) r4),(5,.box 51 au r5),(bY,.arr 53 af rl)]⟩
noncomputable def bZ.l0 (k m0:Nat) (x3:Int) (x6:List Int) (x7:Int):Option Int:=nK T dU k 80 Tryz.f80 none [1,1,0,1,0] m0 [] ⟨[(3,.v (.int .i64) x3),(6,.v (.arr 8 (.int .i64)) x6),(7,.v (.int .i64) x7)],[]⟩
noncomputable def bQ.l0 (k m0:Nat) (x0:List Int) (x3:List Int) (x4:Int):Option (List Int):=nK T dU k 84 Tryz.f84 none [1,1,0,1,0] m0 [] ⟨[(0,.v (.list (.int .u32)) x0),(3,.v (.list (.int .i64)) x3),(4,.v (.int .i64) x4)],[]⟩
noncomputable def eG.l0 (k m0:Nat) (x3:Int) (x7:List ah) (x8:Int) (x9:Int):Option Int:=nK T dU k 100 Tryz.f100 none [1,1,0,1,0] m0 [] ⟨[(3,.v (.int .i64) x3),(7,.v (.list aj) x7),(8,.v (.int .i64) x8),(9,.v (.int .i64) x9)],[]⟩
noncomputable def dV.l0 (k m0:Nat) (x1:Int) (x5:Int) (x9:List ah) (x10:Int) (x11:Int):Option Int:=nK T dU k 104 Tryz.f104 none [1,1,0,1,0] m0 [] ⟨[(1,.v (.int .i64) x1),(5,.v (.int .i64) x5),(9,.v (.list aj) x9),(10,.v (.int .i64) x10),(11,.v (.int .i64) x11)],[]⟩
noncomputable def eY.l0 (k m0:Nat) (x1:Int) (x2:Int) (x15:List ah) (x16:Int) (x17:Int) (r6:aA) (q7_0:Int) (r13:List ah):Option aA:=nK T dU k 105 Tryz.f105 none [1,1,0,1,0] m0 [] ⟨[(1,.v (.int .i64) x1),(2,.v (.int .i64) x2),(6,.po 6 0 []),(7,.po 2000007 0 []),(15,.v (.list aj) x15),(16,.v (.int .i64) x16),(17,.v (.int .i64) x17)],[(6,.box 24 ai r6),(2000007,.obox 24 [.v (.int .i64) q7_0,.own 13]),(13,.arr 96 aj r13)]⟩
noncomputable def dI.l0 (k m0:Nat) (x6:Int) (x7:Int) (r2:aA) (r3:aA) (r4:aA) (q5_0:Int) (r12:List ah):Option aA:=nK T dU k 113 Tryz.f113 none [1,1,1,0,0] m0 [] ⟨[(2,.po 2 0 []),(3,.po 3 0 []),(4,.po 4 0 []),(5,.po 2000005 0 []),(6,.v (.int .i64) x6),(7,.v (.int .i64) x7)],[(2,.box 24 ai r2),(3,.box 24 ai r3),(4,.box 24 ai r4),(2000005,.obox 24 [.v (.int .i64) q5_0,.own 12]),(12,.arr 96 aj r12)]⟩
noncomputable def bK.l0 (k m0:Nat) (x6:Int) (r2:List Int) (r3:List Int):Option Bool:=nK T dU k 117 Tryz.f117 none [1,0,1,0] m0 [] ⟨[(2,.po 2 0 []),(3,.po 3 0 []),(6,.v (.int .i64) x6)],[(2,.box 47 (.arr 8 (.int .i64)) r2),(3,.box 47 (.arr 8 (.int .i64)) r3)]⟩
noncomputable def fP.l0 (k m0:Nat) (x9:List ah) (x10:Int) (x11:Int) (r2:aA) (r3:aA) (r4:aA) (r5:List ah):Option aA:=nK T dU k 130 Tryz.f130 none [1,1,0,1,0] m0 [] ⟨[(2,.po 2 0 []),(3,.po 3 0 []),(4,.po 4 0 []),(5,.own 5),(9,.v (.list aj) x9),(10,.v (.int .i64) x10),(11,.v (.int .i64) x11)],[(2,.box 24 ai r2),(3,.box 24 ai r3),(4,.box 24 ai r4),(5,.arr 96 aj r5)]⟩
noncomputable def gO.l0 (k m0:Nat) (x10:List ah) (x11:Int) (x12:Int) (r1:aA) (r2:aA) (q3_0:Int) (r8:List ah):Option aA:=nK T dU k 143 Tryz.f143 none [1,1,0,1,0] m0 [] ⟨[(1,.po 1 0 []),(2,.po 2 0 []),(3,.po 2000003 0 []),(10,.v (.list aj) x10),(11,.v (.int .i64) x11),(12,.v (.int .i64) x12)],[(1,.box 24 ai r1),(2,.box 24 ai r2),(2000003,.obox 24 [.v (.int .i64) q3_0,.own 8]),(8,.arr 96 aj r8)]⟩
noncomputable def fO.l0 (k m0:Nat) (x3:Int) (x6:List Int) (x7:Int) (x8:Int):Option Int:=nK T dU k 149 Tryz.f149 none [1,1,0,1,0] m0 [] ⟨[(3,.v (.int .i64) x3),(6,.v (.list (.int .i64)) x6),(7,.v (.int .i64) x7),(8,.v (.int .i64) x8)],[]⟩
noncomputable def cR.l0 (k m0:Nat) (x14:List ah) (x15:Int) (x16:Int) (r2:aA) (r3:ah) (r4:aA) (q5_0:Int) (r12:List ah):Option aA:=nK T dU k 155 Tryz.f155 none [1,1,0,1,0] m0 [] ⟨[(2,.po 2 0 []),(3,.po 3 0 []),(4,.po 4 0 []),(5,.po 2000005 0 []),(14,.v (.list aj) x14),(15,.v (.int .i64) x15),(16,.v (.int .i64) x16)],[(2,.box 24 ai r2),(3,.box 96 aj r3),(4,.box 24 ai r4),(2000005,.obox 24 [.v (.int .i64) q5_0,.own 12]),(12,.arr 96 aj r12)]⟩
noncomputable def cR.l1 (k m1:Nat) (m0:Nat) (x14:List ah) (x15:Int) (x16:Int) (x24:Int) (x25:Int) (r2:aA) (r3:ah) (r4:aA) (q5_0:Int) (r12:List ah) (r7:ah) (r22:List Int):Option aA:=nK T dU k 155 Tryz.f155 none [1,1,0,1,0,0,1,1,0,0,1,1,0,1,0] m1 [m0] ⟨[(2,.po 2 0 []),(3,.po 3 0 []),(4,.po 4 0 []),(5,.po 2000005 0 []),(7,.po 7 0 []),(8,.own 22),(14,.v (.list aj) x14),(15,.v (.int .i64) x15),(16,.v (.int .i64) x16),(24,.v (.int .i64) x24),(25,.v (.int .i64) x25)],[(2,.box 24 ai r2),(3,.box 96 aj r3),(4,.box 24 ai r4),(2000005,.obox 24 [.v (.int .i64) q5_0,.own 12]),(12,.arr 96 aj r12),(7,.box 96 aj r7),(22,.arr 3 (.int .i64) r22)]⟩
noncomputable def bf.l0 (k m0:Nat) (x0:Int) (x5:List (ByteArray×Int)) (x16:List ah) (x17:Int) (x18:Int) (r4:aA) (r6:List ah):Option aA:=nK T dU k 167 Tryz.f167 none [1,1,1,0,1,0] m0 [] ⟨[(0,.v (.int .i64) x0),(4,.po 4 0 []),(5,.mp x5),(6,.own 6),(16,.v (.list aj) x16),(17,.v (.int .i64) x17),(18,.v (.int .i64) x18)],[(4,.box 24 ai r4),(6,.arr 96 aj r6)]⟩
noncomputable def bf.l1 (k m0:Nat) (x56:List ah) (x57:Int) (x58:Int) (r4:aA) (q12_0:Int) (r55:List ah):Option aA:=nK T dU k 167 Tryz.f167 none [1,1,1,1,1,0,1,0] m0 [] ⟨[(4,.po 4 0 []),(12,.po 2000012 0 []),(56,.v (.list aj) x56),(57,.v (.int .i64) x57),(58,.v (.int .i64) x58)],[(4,.box 24 ai r4),(2000012,.obox 24 [.v (.int .i64) q12_0,.own 55]),(55,.arr 96 aj r55)]⟩
noncomputable def gZ.l0 (k m0:Nat) (x10:List Int) (x11:Int) (x12:Int) (r9:List Int):Option ByteArray:=nK T dU k 186 Tryz.f186 none [1,1,0,1,0] m0 [] ⟨[(3,.own 9),(10,.v (.list (.int .i64)) x10),(11,.v (.int .i64) x11),(12,.v (.int .i64) x12)],[(9,.arr 5 (.int .u8) r9)]⟩
noncomputable def bH.j0 (k:Nat) (m0:Nat) (x1:Int) (x2:Int) (x10:List ah) (x11:Int) (x12:Int) (r7:List ah):Option (List ah) :=
 bH.l0 k m0 x1 x2 x10 x11 (wrap64 (x12+(1:Int))) r7
noncomputable def cF.j1 (k:Nat) (m0:Nat) (x1:Int) (x11:Int) (r3:aA) (r5:aA) (r6:aA) (r9:aA) (r10:aA):Option (aA×Int×Unit) :=
 (eY k r3 x1 x11).bind fun (v9:aA) =>
 (ki k v9 r10).bind fun (v10:aA×Int×Unit) =>
 bif v10.2.1 != (0:Int) then
  some (((0:Int),[],()),v10.2.1,())
 else
  (dI k r9 v10.1).bind fun (v11:aA) =>
  cF.l0 k m0 x1 (wrap64 (x11+(1:Int))) r3 r5 r6 v11 r10
noncomputable def cF.j0 (k:Nat) (x1:Int) (x8:Int) (r3:aA) (r5:aA) (r6:aA):Option (aA×Int×Unit) :=
 bif x8 != (0:Int) then
  some (((0:Int),[],()),x8,())
 else
  (vO k r3.1).bind fun (v3:aA) =>
  (zB k ).bind fun (v4:bJ) =>
  (pS k r3.1 v4).bind fun (v5:aA) =>
  cF.l0 k k x1 (0:Int) r3 r5 r6 v3 v5
noncomputable def aQ.j0 (k:Nat) (m0 m1:Nat) (x0:List ah) (x1:Int) (x7:Int) (x16:Int) (x17:Int) (x19:List ah) (x20:Int) (x21:Int) (r4:aA) (q5_0:Int) (r11:List ah) (r14:List Bool):Option aA :=
 aQ.l1 k m1 m0 x0 x1 x7 x16 x17 x19 x20 (wrap64 (x21+(1:Int))) r4 q5_0 r11 r14
noncomputable def eY.j0 (k:Nat) (m0:Nat) (x1:Int) (x2:Int) (x15:List ah) (x16:Int) (x17:Int) (r6:aA) (q7_0:Int) (r13:List ah):Option aA :=
 eY.l0 k m0 x1 x2 x15 x16 (wrap64 (x17+(1:Int))) r6 q7_0 r13
noncomputable def dI.j1 (k:Nat) (m0:Nat) (x6:Int) (x7:Int) (r2:aA) (r3:aA) (r4:aA) (q5_0:Int) (r12:List ah):Option aA :=
 dI.l0 k m0 (wrap64 (x6+(1:Int))) (wrap64 (x7+(1:Int))) r2 r3 r4 q5_0 r12
noncomputable def dI.j0 (k:Nat) (m0:Nat) (x6:Int) (x7:Int) (x8:Int) (r2:aA) (r3:aA) (r4:aA) (q5_0:Int) (r12:List ah):Option aA :=
 bif decide (x8>(0:Int)) then
  if 0<=x6/\x6<(List.length r2.2.1:Int) then if (List.length r12+List.length ([(cE (t:=aj) r2.2.1 x6:ah)]))*80<=140737488355328 then dI.l0 k m0 (wrap64 (x6+(1:Int))) x7 r2 r3 r4 q5_0 (r12++([(cE (t:=aj) r2.2.1 x6:ah)])) else none else none
 else
  bif decide (x8<(0:Int)) then
   if 0<=x7/\x7<(List.length r3.2.1:Int) then if (List.length r12+List.length ([(cE (t:=aj) r3.2.1 x7:ah)]))*80<=140737488355328 then dI.l0 k m0 x6 (wrap64 (x7+(1:Int))) r2 r3 r4 q5_0 (r12++([(cE (t:=aj) r3.2.1 x7:ah)])) else none else none
  else
   if 0<=x6/\x6<(List.length r2.2.1:Int) then if 0<=x7/\x7<(List.length r3.2.1:Int) then (gC k (((cE (t:=aj) r2.2.1 x6:ah).2).1) (((cE (t:=aj) r3.2.1 x7:ah).2).1)).bind fun (v3:bJ) =>
   (iB k v3).bind fun (v4:Int) =>
   bif v4 != (0:Int) then
    if 0<=x6/\x6<(List.length r2.2.1:Int) then if (List.length r12+List.length ([((cE (t:=aj) r2.2.1 x6:ah).1,v3,())]))*80<=140737488355328 then dI.j1 k m0 x6 x7 r2 r3 r4 q5_0 (r12++([((cE (t:=aj) r2.2.1 x6:ah).1,v3,())])) else none else none
   else
    dI.j1 k m0 x6 x7 r2 r3 r4 q5_0 r12 else none else none
noncomputable def fP.j0 (k:Nat) (m0:Nat) (x9:List ah) (x10:Int) (x11:Int) (r2:aA) (r3:aA) (r4:aA) (r5:List ah):Option aA :=
 fP.l0 k m0 x9 x10 (wrap64 (x11+(1:Int))) r2 r3 r4 r5
noncomputable def gC.j0 (k:Nat) (x5:List Int) (x6:List Int) (x7:List Int) (r2:bJ) (r3:bJ) (r4:bJ):Option bJ :=
 bif r2.1==r3.1 then
  (di k x5 x6).bind fun (v5:List Int) =>
  (eo k r2.1 v5 x7).bind fun (v6:bJ) =>
  some v6
 else
  (dP k x5 x6).bind fun (v7:Int) =>
  bif decide (v7>=(0:Int)) then
   (dJ k x5 x6).bind fun (v8:List Int) =>
   (eo k r2.1 v8 x7).bind fun (v9:bJ) =>
   some v9
  else
   (dJ k x6 x5).bind fun (v10:List Int) =>
   (eo k r3.1 v10 x7).bind fun (v11:bJ) =>
   some v11
noncomputable def bf.j1 (k:Nat) (m0:Nat) (x56:List ah) (x57:Int) (x58:Int) (r4:aA) (q12_0:Int) (r55:List ah):Option aA :=
 bf.l1 k m0 x56 x57 (wrap64 (x58+(1:Int))) r4 q12_0 r55
noncomputable def bf.j0 (k:Nat) (m0:Nat) (x0:Int) (x5:List (ByteArray×Int)) (x16:List ah) (x17:Int) (x18:Int) (r4:aA) (r6:List ah):Option aA :=
 bf.l0 k m0 x0 x5 x16 x17 (wrap64 (x18+(1:Int))) r4 r6
noncomputable def eo.j0 (k:Nat) (x0:Bool) (x1:List Int) (x2:List Int) (r6:bJ):Option bJ :=
 if List.length x1*4<=140737488355328 then if List.length x2*4<=140737488355328 then some (x0,x1,x2,()) else none else none
theorem ka (k:Nat) (a0:aA) (a1:aA) (a2:Int):ig (k+1) a0 a1 a2 =
 (gR k ).bind fun (v1:Bool) =>
 bif !v1 then
  some false
 else
  (bif a0.1 != a1.1 then some true else (bh k a0 (8:Int) (4:Int) (1:Int)).bind fun (v2:Bool) =>
  some (!v2)).bind fun (b3:Bool) =>
  (bif b3 then some true else (bh k a1 (4:Int) (3:Int) (1:Int)).bind fun (v4:Bool) =>
  some (!v4)).bind fun (b5:Bool) =>
  bif b5 then
   some true
  else
   (cF k a0 a2 a1).bind fun (v6:aA×Int×Unit) =>
   (bif decide (a2<(0:Int)) then some true else some (decide (a2>=a0.1))).bind fun (b7:Bool) =>
   bif b7 then
    (bif v6.2.1==(1:Int) then (il k v6.1).bind fun (v8:Bool) =>
    some v8 else some false).bind fun (b9:Bool) =>
    some b9
   else
    (bif v6.2.1==(0:Int) then (bL k a0).bind fun (v10:List ah) =>
    (bL k a1).bind fun (v11:List ah) =>
    (cn k v10 a2 v11).bind fun (v12:List ah) =>
    (fI k v6.1 v12 a0.1).bind fun (v13:Bool) =>
    some v13 else some false).bind fun (b14:Bool) =>
    some b14:=by
 kernel_rfl
theorem jO (k:Nat) (a0:aA):bB (k+1) a0 =
 (bif decide (a0.1<(0:Int)) then some true else some (decide (a0.1>(8:Int)))).bind fun (b1:Bool) =>
 (bif b1 then some true else some (decide ((List.length a0.2.1:Int)>(4000:Int)))).bind fun (b2:Bool) =>
 bif b2 then
  some false
 else
  bB.l0 k k a0.2.1 (List.length a0.2.1:Int) (0:Int) a0:=by
 kernel_rfl
theorem bB.aM (k m0:Nat) (x23:List ah) (x24:Int) (x25:Int) (r1:aA):bB.l0 k (m0+1) x23 x24 x25 r1 =
 bif decide (x25<x24) then
  if 0<=x25/\x25<(List.length x23:Int) then (bif (List.length ((cE (t:=aj) x23 x25:ah).1):Int) != r1.1 then some true else (l7 k (((cE (t:=aj) x23 x25:ah).2).1) (200:Int)).bind fun (v3:Bool) =>
  some (!v3)).bind fun (b4:Bool) =>
  (bif b4 then some true else (iB k (((cE (t:=aj) x23 x25:ah).2).1)).bind fun (v5:Int) =>
  some (v5==(0:Int))).bind fun (b6:Bool) =>
  bif b6 then
   some false
  else
   bB.l1 k k m0 x25 (0:Int) x23 x24 x25 ((cE (t:=aj) x23 x25:ah).1) (List.length ((cE (t:=aj) x23 x25:ah).1):Int) (0:Int) r1 (cE (t:=aj) x23 x25:ah) else none
 else
  some true:=by
 kernel_rfl
theorem bB.eH (k m1:Nat) (m0:Nat) (x3:Int) (x5:Int) (x23:List ah) (x24:Int) (x25:Int) (x49:List Int) (x50:Int) (x51:Int) (r1:aA) (r4:ah):bB.l1 k (m1+1) m0 x3 x5 x23 x24 x25 x49 x50 x51 r1 r4 =
 bif decide (x51<x50) then
  if 0<=x51/\x51<(List.length x49:Int) then (bif decide ((cE (t:=(.int .i64)) x49 x51:Int)<(0:Int)) then some true else some (decide ((cE (t:=(.int .i64)) x49 x51:Int)>(40:Int)))).bind fun (b7:Bool) =>
  bif b7 then
   some false
  else
   bB.l1 k m1 m0 x3 (wrap64 (x5+(cE (t:=(.int .i64)) x49 x51:Int))) x23 x24 x25 x49 x50 (wrap64 (x51+(1:Int))) r1 r4 else none
 else
  (bif decide (x5>(40:Int)) then some true else (bif decide (x3>(0:Int)) then if 0<=(wrap64 (x3-(1:Int)))/\(wrap64 (x3-(1:Int)))<(List.length r1.2.1:Int) then (fb k ((cE (t:=aj) r1.2.1 (wrap64 (x3-(1:Int))):ah).1) r4.1).bind fun (v8:Int) =>
  some (decide (v8<=(0:Int))) else none else some false).bind fun (b9:Bool) =>
  some b9).bind fun (b10:Bool) =>
  (bif b10 then some true else (fe k r4.2.1 (200:Int)).bind fun (v11:Bool) =>
  some (!v11)).bind fun (b12:Bool) =>
  bif b12 then
   some false
  else
   bB.l0 k m0 x23 x24 (wrap64 (x25+(1:Int))) r1:=by
 kernel_rfl
theorem mZ (k:Nat) (a0:aA):il (k+1) a0 =
 (bif a0.1==(0:Int) then some ((List.length a0.2.1:Int)==(0:Int)) else some false).bind fun (b1:Bool) =>
 some b1:=by
 kernel_rfl
theorem o7 (k:Nat) (a0:aA) (a1:List ah) (a2:Int):fI (k+1) a0 a1 a2 =
 (aQ k a1 a2).bind fun (v1:aA) =>
 (aK k a0 v1).bind fun (v2:Bool) =>
 some v2:=by
 kernel_rfl
theorem nS (k:Nat) (a0:List ah) (a1:List ah):bb (k+1) a0 a1 =
 bb.l0 k k a1 a0 (List.length a0:Int) (0:Int) ([]:List ah):=by
 kernel_rfl
theorem bb.aM (k m0:Nat) (x1:List ah) (x10:List ah) (x11:Int) (x12:Int) (r5:List ah):bb.l0 k (m0+1) x1 x10 x11 x12 r5 =
 bif decide (x12<x11) then
  if 0<=x12/\x12<(List.length x10:Int) then (ba k x1 (cE (t:=af) x10 x12:ah)).bind fun (v1:List ah) =>
  bb.l1 k k m0 x1 x10 x11 x12 v1 (List.length v1:Int) (0:Int) r5 else none
 else
  some r5:=by
 kernel_rfl
theorem bb.eH (k m1:Nat) (m0:Nat) (x1:List ah) (x10:List ah) (x11:Int) (x12:Int) (x18:List ah) (x19:Int) (x20:Int) (r5:List ah):bb.l1 k (m1+1) m0 x1 x10 x11 x12 x18 x19 x20 r5 =
 bif decide (x20<x19) then
  if 0<=x20/\x20<(List.length x18:Int) then (bP k r5 ((cE (t:=af) x18 x20:ah).1) (((cE (t:=af) x18 x20:ah).2).1)).bind fun (v2:List ah) =>
  bb.l1 k m1 m0 x1 x10 x11 x12 x18 x19 (wrap64 (x20+(1:Int))) v2 else none
 else
  bb.l0 k m0 x1 x10 x11 (wrap64 (x12+(1:Int))) r5:=by
 kernel_rfl
theorem o6 (k:Nat) (a0:aA):bL (k+1) a0 =
 bL.l0 k k a0.2.1 (List.length a0.2.1:Int) (0:Int) ([]:List ah):=by
 kernel_rfl
theorem bL.aM (k m0:Nat) (x8:List ah) (x9:Int) (x10:Int) (r3:List ah):bL.l0 k (m0+1) x8 x9 x10 r3 =
 bif decide (x10<x9) then
  if 0<=x10/\x10<(List.length x8:Int) then if List.length (List.replicate 8 (0:Int))=8 then (jk k (((cE (t:=aj) x8 x10:ah).2).1)).bind fun (v1:bJ) =>
  if (List.length r3+List.length ([(j6 (List.replicate 8 (0:Int)) ((cE (t:=aj) x8 x10:ah).1),v1,())]))*120<=140737488355328 then bL.l0 k m0 x8 x9 (wrap64 (x10+(1:Int))) (r3++([(j6 (List.replicate 8 (0:Int)) ((cE (t:=aj) x8 x10:ah).1),v1,())])) else none else none else none
 else
  some r3:=by
 kernel_rfl
theorem eB (k:Nat) (a0:aA) (a1:Int) (a2:Int) (a3:Int):bh (k+1) a0 a1 a2 a3 =
 (bif decide (a0.1<(0:Int)) then some true else some (decide (a0.1>(8:Int)))).bind fun (b1:Bool) =>
 (bif b1 then some true else some (decide ((List.length a0.2.1:Int)>a1))).bind fun (b2:Bool) =>
 bif b2 then
  some false
 else
  bh.l0 k k a2 a3 a0.2.1 (List.length a0.2.1:Int) (0:Int) a0:=by
 kernel_rfl
theorem bh.aM (k m0:Nat) (x2:Int) (x3:Int) (x27:List ah) (x28:Int) (x29:Int) (r4:aA):bh.l0 k (m0+1) x2 x3 x27 x28 x29 r4 =
 bif decide (x29<x28) then
  if 0<=x29/\x29<(List.length x27:Int) then (dw k (((cE (t:=aj) x27 x29:ah).2).1) x3).bind fun (v3:Bool) =>
  bif !v3 then
   some false
  else
   bh.l0 k m0 x2 x3 x27 x28 (wrap64 (x29+(1:Int))) r4 else none
 else
  (aT k r4).bind fun (v4:Bool) =>
  (bif v4 then (bL k r4).bind fun (v5:List ah) =>
  (bA k v5).bind fun (v6:Int) =>
  some (decide (v6<=x2)) else some false).bind fun (b7:Bool) =>
  some b7:=by
 kernel_rfl
theorem iF (k:Nat) (a0:List ah):bA (k+1) a0 =
 bA.l0 k k (-1:Int) a0 (List.length a0:Int) (0:Int):=by
 kernel_rfl
theorem bA.aM (k m0:Nat) (x3:Int) (x6:List ah) (x7:Int) (x8:Int):bA.l0 k (m0+1) x3 x6 x7 x8 =
 bif decide (x8<x7) then
  if 0<=x8/\x8<(List.length x6:Int) then (bZ k ((cE (t:=af) x6 x8:ah).1)).bind fun (v1:Int) =>
  bA.l0 k m0 (mx x3 v1) x6 x7 (wrap64 (x8+(1:Int))) else none
 else
  some x3:=by
 kernel_rfl
theorem nU (k:Nat):iP (k+1) =
 some (false,[(1:Int)],[(1:Int)],()):=by
 kernel_rfl
theorem nR (k:Nat) (a0:List ah) (a1:Int):cH (k+1) a0 a1 =
 (iP k ).bind fun (v1:bJ) =>
 (fJ k v1).bind fun (v2:List ah) =>
 cH.l0 k k a0 v2 a1 (0:Int):=by
 kernel_rfl
theorem cH.aM (k m0:Nat) (x0:List ah) (x5:List ah) (x8:Int) (x9:Int):cH.l0 k (m0+1) x0 x5 x8 x9 =
 bif decide (x9<x8) then
  (bb k x5 x0).bind fun (v3:List ah) =>
  cH.l0 k m0 x0 v3 x8 (wrap64 (x9+(1:Int)))
 else
  some x5:=by
 kernel_rfl
theorem pb (k:Nat) (a0:bJ):jk (k+1) a0 =
 (bQ k a0.2.1).bind fun (v1:List Int) =>
 (bQ k a0.2.2.1).bind fun (v2:List Int) =>
 some (a0.1,v1,v2,()):=by
 kernel_rfl
theorem gy (k:Nat) (a0:bJ) (a1:bJ):gg (k+1) a0 a1 =
 (ax k a0.2.1 a1.2.2.1).bind fun (v1:List Int) =>
 (ax k a1.2.1 a0.2.2.1).bind fun (v2:List Int) =>
 (ax k a0.2.2.1 a1.2.2.1).bind fun (v3:List Int) =>
 bif a0.1==a1.1 then
  (az k v1 v2).bind fun (v4:List Int) =>
  (eJ k a0.1 v4 v3).bind fun (v5:bJ) =>
  some v5
 else
  (aJ k v1 v2).bind fun (v6:Int) =>
  bif decide (v6>=(0:Int)) then
   (aN k v1 v2).bind fun (v7:List Int) =>
   (eJ k a0.1 v7 v3).bind fun (v8:bJ) =>
   some v8
  else
   (aN k v2 v1).bind fun (v9:List Int) =>
   (eJ k a1.1 v9 v3).bind fun (v10:bJ) =>
   some v10:=by
 kernel_rfl
theorem nV (k:Nat) (a0:bJ) (a1:bJ):iQ (k+1) a0 a1 =
 (ax k a0.2.1 a1.2.1).bind fun (v1:List Int) =>
 (ax k a0.2.2.1 a1.2.2.1).bind fun (v2:List Int) =>
 (eJ k (a0.1 != a1.1) v1 v2).bind fun (v3:bJ) =>
 some v3:=by
 kernel_rfl
theorem mh (k:Nat) (a0:bJ):fJ (k+1) a0 =
 (bP k [] (List.replicate 8 (0:Int)) a0).bind fun (v1:List ah) =>
 some v1:=by
 kernel_rfl
theorem kJ (k:Nat) (a0:List ah) (a1:Int):bR (k+1) a0 a1 =
 bR.l0 k k a1 (-1:Int) a0 (List.length a0:Int) (0:Int):=by
 kernel_rfl
theorem bR.aM (k m0:Nat) (x1:Int) (x5:Int) (x8:List ah) (x9:Int) (x10:Int):bR.l0 k (m0+1) x1 x5 x8 x9 x10 =
 bif decide (x10<x9) then
  if 0<=x10/\x10<(List.length x8:Int) then if 0<=x1/\x1<(8:Int) then bR.l0 k m0 x1 (mx x5 (xk (0:Int) 8 ((cE (t:=af) x8 x10:ah).1) x1:Int)) x8 x9 (wrap64 (x10+(1:Int))) else none else none
 else
  some x5:=by
 kernel_rfl
theorem nc (k:Nat) (a0:List ah) (a1:Int) (a2:Int):bH (k+1) a0 a1 a2 =
 bH.l0 k k a1 a2 a0 (List.length a0:Int) (0:Int) ([]:List ah):=by
 kernel_rfl
theorem bH.aM (k m0:Nat) (x1:Int) (x2:Int) (x10:List ah) (x11:Int) (x12:Int) (r7:List ah):bH.l0 k (m0+1) x1 x2 x10 x11 x12 r7 =
 bif decide (x12<x11) then
  if 0<=x12/\x12<(List.length x10:Int) then if 0<=x1/\x1<(8:Int) then bif (xk (0:Int) 8 ((cE (t:=af) x10 x12:ah).1) x1:Int)==x2 then
   if 0<=x1/\x1<(8:Int) then if (List.length r7+List.length ([(Kv (0:Int) 8 ((cE (t:=af) x10 x12:ah).1) x1 (0:Int),(cE (t:=af) x10 x12:ah).2)]))*120<=140737488355328 then bH.j0 k m0 x1 x2 x10 x11 x12 (r7++([(Kv (0:Int) 8 ((cE (t:=af) x10 x12:ah).1) x1 (0:Int),(cE (t:=af) x10 x12:ah).2)])) else none else none
  else
   bH.j0 k m0 x1 x2 x10 x11 x12 r7 else none else none
 else
  some r7:=by
 kernel_rfl
theorem nT (k:Nat) (a0:List ah) (a1:List ah):cI (k+1) a0 a1 =
 if (List.length ([]:List ah)+List.length a0)*120<=140737488355328 then cI.l0 k k a1 (List.length a1:Int) (0:Int) (([]:List ah)++a0) else none:=by
 kernel_rfl
theorem cI.aM (k m0:Nat) (x11:List ah) (x12:Int) (x13:Int) (r8:List ah):cI.l0 k (m0+1) x11 x12 x13 r8 =
 bif decide (x13<x12) then
  if 0<=x13/\x13<(List.length x11:Int) then (bP k r8 ((cE (t:=af) x11 x13:ah).1) (((cE (t:=af) x11 x13:ah).2).1)).bind fun (v1:List ah) =>
  cI.l0 k m0 x11 x12 (wrap64 (x13+(1:Int))) v1 else none
 else
  some r8:=by
 kernel_rfl
theorem gf (k:Nat) (a0:aA) (a1:aA):aK (k+1) a0 a1 =
 (bif a0.1 != a1.1 then some true else some ((List.length a0.2.1:Int) != (List.length a1.2.1:Int))).bind fun (b1:Bool) =>
 bif b1 then
  some false
 else
  aK.l0 k k a0.2.1 (List.length a0.2.1:Int) (0:Int) a1:=by
 kernel_rfl
theorem aK.aM (k m0:Nat) (x24:List ah) (x25:Int) (x26:Int) (r3:aA):aK.l0 k (m0+1) x24 x25 x26 r3 =
 bif decide (x26<x25) then
  if 0<=x26/\x26<(List.length x24:Int) then if 0<=x26/\x26<(List.length r3.2.1:Int) then (bif (List.length ((cE (t:=aj) x24 x26:ah).1):Int) != (List.length ((cE (t:=aj) r3.2.1 x26:ah).1):Int) then some true else (fp k (((cE (t:=aj) x24 x26:ah).2).1) (((cE (t:=aj) r3.2.1 x26:ah).2).1)).bind fun (v2:Bool) =>
  some (!v2)).bind fun (b3:Bool) =>
  bif b3 then
   some false
  else
   aK.l1 k k m0 x24 x25 x26 (List.length ((cE (t:=aj) x24 x26:ah).1):Int) (0:Int) r3 (cE (t:=aj) x24 x26:ah) (cE (t:=aj) r3.2.1 x26:ah) else none else none
 else
  some true:=by
 kernel_rfl
theorem aK.eH (k m1:Nat) (m0:Nat) (x24:List ah) (x25:Int) (x26:Int) (x53:Int) (x54:Int) (r3:aA) (r6:ah) (r7:ah):aK.l1 k (m1+1) m0 x24 x25 x26 x53 x54 r3 r6 r7 =
 bif decide (x54<x53) then
  if 0<=x54/\x54<(List.length r6.1:Int) then if 0<=x54/\x54<(List.length r7.1:Int) then bif (cE (t:=(.int .i64)) r6.1 x54:Int) != (cE (t:=(.int .i64)) r7.1 x54:Int) then
   some false
  else
   aK.l1 k m1 m0 x24 x25 x26 x53 (wrap64 (x54+(1:Int))) r3 r6 r7 else none else none
 else
  aK.l0 k m0 x24 x25 (wrap64 (x26+(1:Int))) r3:=by
 kernel_rfl
theorem qn (k:Nat) (a0:aA) (a1:Int) (a2:aA):cF (k+1) a0 a1 a2 =
 (pR k a0 a2).bind fun (v1:Int) =>
 bif v1==(0:Int) then
  (k8 k a0 a1).bind fun (v2:Int) =>
  cF.j0 k a1 v2 a0 a2 ((0:Int),[],())
 else
  cF.j0 k a1 v1 a0 a2 ((0:Int),[],()):=by
 kernel_rfl
theorem cF.aM (k m0:Nat) (x1:Int) (x11:Int) (r3:aA) (r5:aA) (r6:aA) (r9:aA) (r10:aA):cF.l0 k (m0+1) x1 x11 r3 r5 r6 r9 r10 =
 (dV k r3 x1).bind fun (v6:Int) =>
 bif decide (x11<=v6) then
  bif decide (x11>(0:Int)) then
   (ki k r10 r5).bind fun (v7:aA×Int×Unit) =>
   bif v7.2.1 != (0:Int) then
    some (((0:Int),[],()),v7.2.1,())
   else
    cF.j1 k m0 x1 x11 r3 r5 r6 r9 v7.1
  else
   cF.j1 k m0 x1 x11 r3 r5 r6 r9 r10
 else
  (jc k r9).bind fun (v8:aA×Int×Unit) =>
  some (v8.1,v8.2.1,()):=by
 kernel_rfl
theorem mf (k:Nat) (a0:List ah) (a1:Int) (a2:List ah):cn (k+1) a0 a1 a2 =
 cn.l0 k k a0 a1 a2 [] (0:Int):=by
 kernel_rfl
theorem cn.aM (k m0:Nat) (x0:List ah) (x1:Int) (x2:List ah) (x7:List ah) (x8:Int):cn.l0 k (m0+1) x0 x1 x2 x7 x8 =
 (bR k x0 x1).bind fun (v1:Int) =>
 bif decide (x8<=v1) then
  (bH k x0 x1 x8).bind fun (v2:List ah) =>
  (cH k x2 x8).bind fun (v3:List ah) =>
  (bb k v2 v3).bind fun (v4:List ah) =>
  (cI k x7 v4).bind fun (v5:List ah) =>
  cn.l0 k m0 x0 x1 x2 v5 (wrap64 (x8+(1:Int)))
 else
  some x7:=by
 kernel_rfl
theorem oZ (k:Nat) (a0:List ah) (a1:Int):aQ (k+1) a0 a1 =
 if 0<=(List.length a0:Int)/\(List.length a0:Int)<=(List.length a0:Int)/\1*(Int.toNat (List.length a0:Int))<=281474976710656/\(Int.toNat (List.length a0:Int))<=maxLen then aQ.l0 k k a0 a1 (List.length a0:Int) (0:Int) ((0:Int),[],()) a1 ([]:List ah) (List.replicate (Int.toNat (List.length a0:Int)) (false:Bool)) else none:=by
 kernel_rfl
theorem aQ.aM (k m0:Nat) (x0:List ah) (x1:Int) (x16:Int) (x17:Int) (r4:aA) (q5_0:Int) (r11:List ah) (r14:List Bool):aQ.l0 k (m0+1) x0 x1 x16 x17 r4 q5_0 r11 r14 =
 bif decide (x17<x16) then
  aQ.l1 k k m0 x0 x1 (-1:Int) x16 x17 x0 (List.length x0:Int) (0:Int) r4 q5_0 r11 r14
 else
  some (q5_0,r11,()):=by
 kernel_rfl
theorem aQ.eH (k m1:Nat) (m0:Nat) (x0:List ah) (x1:Int) (x7:Int) (x16:Int) (x17:Int) (x19:List ah) (x20:Int) (x21:Int) (r4:aA) (q5_0:Int) (r11:List ah) (r14:List Bool):aQ.l1 k (m1+1) m0 x0 x1 x7 x16 x17 x19 x20 x21 r4 q5_0 r11 r14 =
 bif decide (x21<x20) then
  if 0<=x21/\x21<(List.length x19:Int) then if 0<=x21/\x21<(List.length r14:Int) then (bif !(cE (t:=.bool) r14 x21:Bool) then (bif decide (x7<(0:Int)) then some true else if 0<=x7/\x7<(List.length x0:Int) then (bK k ((cE (t:=af) x19 x21:ah).1) ((cE (t:=af) x0 x7:ah).1)).bind fun (v1:Bool) =>
  some v1 else none).bind fun (b2:Bool) =>
  some b2 else some false).bind fun (b3:Bool) =>
  bif b3 then
   aQ.j0 k m0 m1 x0 x1 x21 x16 x17 x19 x20 x21 r4 q5_0 r11 r14
  else
   aQ.j0 k m0 m1 x0 x1 x7 x16 x17 x19 x20 x21 r4 q5_0 r11 r14 else none else none
 else
  if 0<=x7/\x7<(List.length r14:Int) then if 0<=x7/\x7<(List.length x0:Int) then if 0<=x1/\x1<=(8:Int) then if (List.length ([]:List Int)+List.length (List.take (Int.toNat x1) (eE (0:Int) 8 ((cE (t:=af) x0 x7:ah).1))))*8<=140737488355328 then if 0<=x7/\x7<(List.length x0:Int) then (fi k (((cE (t:=af) x0 x7:ah).2).1)).bind fun (v4:bJ) =>
  if (List.length r11+List.length ([(([]:List Int)++(List.take (Int.toNat x1) (eE (0:Int) 8 ((cE (t:=af) x0 x7:ah).1))),v4,())]))*80<=140737488355328 then aQ.l0 k m0 x0 x1 x16 (wrap64 (x17+(1:Int))) r4 q5_0 (r11++([(([]:List Int)++(List.take (Int.toNat x1) (eE (0:Int) 8 ((cE (t:=af) x0 x7:ah).1))),v4,())])) (List.set r14 (Int.toNat x7) true) else none else none else none else none else none else none:=by
 kernel_rfl
theorem fg (k:Nat) (a0:aA):aT (k+1) a0 =
 (bif decide (a0.1<(0:Int)) then some true else some (decide (a0.1>(8:Int)))).bind fun (b1:Bool) =>
 (bif b1 then some true else some (decide ((List.length a0.2.1:Int)>(4000:Int)))).bind fun (b2:Bool) =>
 bif b2 then
  some false
 else
  aT.l0 k k a0.2.1 (List.length a0.2.1:Int) (0:Int) a0 (List.replicate 8 (0:Int)):=by
 kernel_rfl
theorem aT.aM (k m0:Nat) (x24:List ah) (x25:Int) (x26:Int) (r1:aA) (r3:List Int):aT.l0 k (m0+1) x24 x25 x26 r1 r3 =
 bif decide (x26<x25) then
  if 0<=x26/\x26<(List.length x24:Int) then (bif (List.length ((cE (t:=aj) x24 x26:ah).1):Int) != r1.1 then some true else (dw k (((cE (t:=aj) x24 x26:ah).2).1) (200:Int)).bind fun (v3:Bool) =>
  some (!v3)).bind fun (b4:Bool) =>
  (bif b4 then some true else (fK k (((cE (t:=aj) x24 x26:ah).2).1)).bind fun (v5:Bool) =>
  some (!v5)).bind fun (b6:Bool) =>
  (bif b6 then some true else some ((List.length (((((cE (t:=aj) x24 x26:ah).2).1).2).1):Int)==(0:Int))).bind fun (b7:Bool) =>
  bif b7 then
   some false
  else
   aT.l1 k k m0 x26 x24 x25 x26 ((cE (t:=aj) x24 x26:ah).1) (List.length ((cE (t:=aj) x24 x26:ah).1):Int) (0:Int) r1 r3 (List.replicate 8 (0:Int)) else none
 else
  some true:=by
 kernel_rfl
theorem aT.eH (k m1:Nat) (m0:Nat) (x4:Int) (x24:List ah) (x25:Int) (x26:Int) (x57:List Int) (x58:Int) (x59:Int) (r1:aA) (r3:List Int) (r6:List Int):aT.l1 k (m1+1) m0 x4 x24 x25 x26 x57 x58 x59 r1 r3 r6 =
 bif decide (x59<x58) then
  if 0<=x59/\x59<(List.length x57:Int) then (bif decide ((cE (t:=(.int .i64)) x57 x59:Int)<(0:Int)) then some true else some (decide ((cE (t:=(.int .i64)) x57 x59:Int)>(40:Int)))).bind fun (b8:Bool) =>
  bif b8 then
   some false
  else
   if 0<=x59/\x59<(8:Int) then aT.l1 k m1 m0 x4 x24 x25 x26 x57 x58 (wrap64 (x59+(1:Int))) r1 r3 (Kv (0:Int) 8 r6 x59 (cE (t:=(.int .i64)) x57 x59:Int)) else none else none
 else
  (bZ k r6).bind fun (v9:Int) =>
  (bif decide (v9>(40:Int)) then some true else (bif decide (x4>(0:Int)) then (bK k r3 r6).bind fun (v10:Bool) =>
  some (!v10) else some false).bind fun (b11:Bool) =>
  some b11).bind fun (b12:Bool) =>
  bif b12 then
   some false
  else
   aT.l0 k m0 x24 x25 (wrap64 (x26+(1:Int))) r1 r6:=by
 kernel_rfl
theorem o9 (k:Nat) (a0:bJ):fi (k+1) a0 =
 (aE k a0.2.1).bind fun (v1:List Int) =>
 (aE k a0.2.2.1).bind fun (v2:List Int) =>
 some (a0.1,v1,v2,()):=by
 kernel_rfl
theorem oR (k:Nat) (a0:bJ) (a1:Int):l7 (k+1) a0 a1 =
 (bif decide ((List.length a0.2.1:Int)<=a1) then some (decide ((List.length a0.2.2.1:Int)<=a1)) else some false).bind fun (b1:Bool) =>
 some b1:=by
 kernel_rfl
theorem lj (k:Nat) (a0:bJ):iB (k+1) a0 =
 bif (List.length a0.2.1:Int)==(0:Int) then
  some (0:Int)
 else
  bif a0.1 then
   some (-1:Int)
  else
   some (1:Int):=by
 kernel_rfl
theorem DW (k:Nat) (a0:List Int) (a1:List Int):fb (k+1) a0 a1 =
 fb.l0 k k a1 a0 (List.length a0:Int) (0:Int):=by
 kernel_rfl
theorem fb.aM (k m0:Nat) (x1:List Int) (x7:List Int) (x8:Int) (x9:Int):fb.l0 k (m0+1) x1 x7 x8 x9 =
 bif decide (x9<x8) then
  if 0<=x9/\x9<(List.length x7:Int) then if 0<=x9/\x9<(List.length x1:Int) then bif (cE (t:=(.int .i64)) x7 x9:Int) != (cE (t:=(.int .i64)) x1 x9:Int) then
   if 0<=x9/\x9<(List.length x1:Int) then bif decide ((cE (t:=(.int .i64)) x7 x9:Int)<(cE (t:=(.int .i64)) x1 x9:Int)) then
    some (-1:Int)
   else
    some (1:Int) else none
  else
   fb.l0 k m0 x1 x7 x8 (wrap64 (x9+(1:Int))) else none else none
 else
  some (0:Int):=by
 kernel_rfl
theorem kr (k:Nat) (a0:bJ) (a1:Int):fe (k+1) a0 a1 =
 (jD k a0.2.1 a1).bind fun (v1:Bool) =>
 (bif !v1 then some true else (jD k a0.2.2.1 a1).bind fun (v2:Bool) =>
 some (!v2)).bind fun (b3:Bool) =>
 (bif b3 then some true else some ((List.length a0.2.2.1:Int)==(0:Int))).bind fun (b4:Bool) =>
 bif b4 then
  some false
 else
  bif (List.length a0.2.1:Int)==(0:Int) then
   (bif !a0.1 then some ((List.length a0.2.2.1:Int)==(1:Int)) else some false).bind fun (b5:Bool) =>
   (bif b5 then if 0<=(0:Int)/\(0:Int)<(List.length a0.2.2.1:Int) then some ((cE (t:=(.int .u32)) a0.2.2.1 (0:Int):Int)==(1:Int)) else none else some false).bind fun (b6:Bool) =>
   some b6
  else
   (bif (List.length a0.2.2.1:Int)==(1:Int) then if 0<=(0:Int)/\(0:Int)<(List.length a0.2.2.1:Int) then some ((cE (t:=(.int .u32)) a0.2.2.1 (0:Int):Int)==(1:Int)) else none else some false).bind fun (b7:Bool) =>
   bif b7 then
    some true
   else
    (cd k a0.2.1 a0.2.2.1).bind fun (v8:List Int) =>
    (bif (List.length v8:Int)==(1:Int) then if 0<=(0:Int)/\(0:Int)<(List.length v8:Int) then some ((cE (t:=(.int .u32)) v8 (0:Int):Int)==(1:Int)) else none else some false).bind fun (b9:Bool) =>
    some b9:=by
 kernel_rfl
theorem zo (k:Nat) (a0:aA) (a1:aA):pR (k+1) a0 a1 =
 (bB k a0).bind fun (v1:Bool) =>
 (bif !v1 then some true else (bB k a1).bind fun (v2:Bool) =>
 some (!v2)).bind fun (b3:Bool) =>
 bif b3 then
  some (3:Int)
 else
  bif a0.1 != a1.1 then
   some (1:Int)
  else
   some (0:Int):=by
 kernel_rfl
theorem j8 (k:Nat) (a0:aA) (a1:aA):ki (k+1) a0 a1 =
 (bif decide ((List.length a0.2.1:Int)>(0:Int)) then some (decide ((List.length a1.2.1:Int)>(0:Int))) else some false).bind fun (b1:Bool) =>
 (bif b1 then (eG k a0).bind fun (v2:Int) =>
 (eG k a1).bind fun (v3:Int) =>
 some (decide ((wrap64 (v2+v3))>(40:Int))) else some false).bind fun (b4:Bool) =>
 bif b4 then
  some (((0:Int),[],()),(2:Int),())
 else
  (fP k a0 a1).bind fun (v5:aA) =>
  (jc k v5).bind fun (v6:aA×Int×Unit) =>
  some (v6.1,v6.2.1,()):=by
 kernel_rfl
theorem mg (k:Nat) (a0:List ah) (a1:ah):ba (k+1) a0 a1 =
 ba.l0 k k a0 (List.length a0:Int) (0:Int) a1 ([]:List ah):=by
 kernel_rfl
theorem ba.aM (k m0:Nat) (x10:List ah) (x11:Int) (x12:Int) (r3:ah) (r5:List ah):ba.l0 k (m0+1) x10 x11 x12 r3 r5 =
 bif decide (x12<x11) then
  if 0<=x12/\x12<(List.length x10:Int) then ba.l1 k k m0 x10 x11 x12 (0:Int) r3 r5 (cE (t:=af) x10 x12:ah) ((cE (t:=af) x10 x12:ah).1) else none
 else
  some r5:=by
 kernel_rfl
theorem ba.eH (k m1:Nat) (m0:Nat) (x10:List ah) (x11:Int) (x12:Int) (x18:Int) (r3:ah) (r5:List ah) (r7:ah) (r8:List Int):ba.l1 k (m1+1) m0 x10 x11 x12 x18 r3 r5 r7 r8 =
 bif decide (x18<(8:Int)) then
  if 0<=x18/\x18<(8:Int) then if 0<=x18/\x18<(8:Int) then if 0<=x18/\x18<(8:Int) then ba.l1 k m1 m0 x10 x11 x12 (wrap64 (x18+(1:Int))) r3 r5 r7 (Kv (0:Int) 8 r8 x18 (wrap64 ((xk (0:Int) 8 r8 x18:Int)+(xk (0:Int) 8 r3.1 x18:Int)))) else none else none else none
 else
  (iQ k r7.2.1 r3.2.1).bind fun (v1:bJ) =>
  if (List.length r5+List.length ([(r8,v1,())]))*120<=140737488355328 then ba.l0 k m0 x10 x11 (wrap64 (x12+(1:Int))) r3 (r5++([(r8,v1,())])) else none:=by
 kernel_rfl
theorem jr (k:Nat) (a0:List ah) (a1:List Int) (a2:bJ):bP (k+1) a0 a1 a2 =
 (fQ k a2).bind fun (v1:Int) =>
 bif v1==(0:Int) then
  some a0
 else
  bP.l0 k k (List.length a0:Int) (0:Int) a0 a1 a2:=by
 kernel_rfl
theorem bP.aM (k m0:Nat) (x14:Int) (x15:Int) (rl:List ah) (r4:List Int) (r5:bJ):bP.l0 k (m0+1) x14 x15 rl r4 r5 =
 bif decide (x15<x14) then
  if 0<=x15/\x15<(List.length rl:Int) then bif eE (0:Int) 8 ((cE (t:=af) rl x15:ah).1)==eE (0:Int) 8 r4 then
   if 0<=x15/\x15<(List.length rl:Int) then (gg k (((cE (t:=af) rl x15:ah).2).1) r5).bind fun (v2:bJ) =>
   (fQ k v2).bind fun (v3:Int) =>
   bif v3==(0:Int) then
    if 0<=(wrap64 ((List.length rl:Int)-(1:Int)))/\(wrap64 ((List.length rl:Int)-(1:Int)))<(List.length rl:Int) then if 0<=x15/\x15<(List.length rl:Int) then if 0<List.length (List.set rl (Int.toNat x15) (cE (t:=af) rl (wrap64 ((List.length rl:Int)-(1:Int))):ah))/\0<=(wrap64 ((List.length (List.set rl (Int.toNat x15) (cE (t:=af) rl (wrap64 ((List.length rl:Int)-(1:Int))):ah)):Int)-(1:Int)))/\(wrap64 ((List.length (List.set rl (Int.toNat x15) (cE (t:=af) rl (wrap64 ((List.length rl:Int)-(1:Int))):ah)):Int)-(1:Int)))<=(List.length (List.set rl (Int.toNat x15) (cE (t:=af) rl (wrap64 ((List.length rl:Int)-(1:Int))):ah)):Int) then some (List.take (Int.toNat (wrap64 ((List.length (List.set rl (Int.toNat x15) (cE (t:=af) rl (wrap64 ((List.length rl:Int)-(1:Int))):ah)):Int)-(1:Int)))) (List.set rl (Int.toNat x15) (cE (t:=af) rl (wrap64 ((List.length rl:Int)-(1:Int))):ah))) else none else none else none
   else
    if 0<=x15/\x15<(List.length rl:Int) then some (List.set rl (Int.toNat x15) ((cE (t:=af) rl x15:ah).1,v2,((cE (t:=af) rl x15:ah).2).2)) else none else none
  else
   bP.l0 k m0 x14 (wrap64 (x15+(1:Int))) rl r4 r5 else none
 else
  if (List.length rl+List.length ([(r4,r5,())]))*120<=140737488355328 then some (rl++([(r4,r5,())])) else none:=by
 kernel_rfl
theorem mi (k:Nat) (a0:bJ) (a1:Int):dw (k+1) a0 a1 =
 (bif decide ((List.length a0.2.1:Int)<=a1) then some (decide ((List.length a0.2.2.1:Int)<=a1)) else some false).bind fun (b1:Bool) =>
 some b1:=by
 kernel_rfl
theorem me (k:Nat) (a0:List Int):bZ (k+1) a0 =
 bZ.l0 k k (0:Int) a0 (0:Int):=by
 kernel_rfl
theorem bZ.aM (k m0:Nat) (x3:Int) (x6:List Int) (x7:Int):bZ.l0 k (m0+1) x3 x6 x7 =
 bif decide (x7<(8:Int)) then
  if 0<=x7/\x7<(8:Int) then bZ.l0 k m0 (wrap64 (x3+(xk (0:Int) 8 x6 x7:Int))) x6 (wrap64 (x7+(1:Int))) else none
 else
  some x3:=by
 kernel_rfl
theorem nf (k:Nat) (a0:bJ):fQ (k+1) a0 =
 bif (List.length a0.2.1:Int)==(0:Int) then
  some (0:Int)
 else
  bif a0.1 then
   some (-1:Int)
  else
   some (1:Int):=by
 kernel_rfl
theorem fh (k:Nat) (a0:bJ):fK (k+1) a0 =
 (bS k a0.2.1).bind fun (v1:Bool) =>
 (bif !v1 then some true else (bS k a0.2.2.1).bind fun (v2:Bool) =>
 some (!v2)).bind fun (b3:Bool) =>
 (bif b3 then some true else some ((List.length a0.2.2.1:Int)==(0:Int))).bind fun (b4:Bool) =>
 bif b4 then
  some false
 else
  bif (List.length a0.2.1:Int)==(0:Int) then
   (bif !a0.1 then some ((List.length a0.2.2.1:Int)==(1:Int)) else some false).bind fun (b5:Bool) =>
   (bif b5 then if 0<=(0:Int)/\(0:Int)<(List.length a0.2.2.1:Int) then some ((cE (t:=(.int .u32)) a0.2.2.1 (0:Int):Int)==(1:Int)) else none else some false).bind fun (b6:Bool) =>
   some b6
  else
   (bQ k a0.2.1).bind fun (v7:List Int) =>
   (bQ k a0.2.2.1).bind fun (v8:List Int) =>
   (ay k v7 v8).bind fun (v9:List Int) =>
   (aJ k v9 ([(1:Int)])).bind fun (v10:Int) =>
   some (v10==(0:Int)):=by
 kernel_rfl
theorem pc (k:Nat) (a0:List Int):bQ (k+1) a0 =
 bQ.l0 k k a0 [] (wrap64 ((List.length a0:Int)-(1:Int))):=by
 kernel_rfl
theorem bQ.aM (k m0:Nat) (x0:List Int) (x3:List Int) (x4:Int):bQ.l0 k (m0+1) x0 x3 x4 =
 bif decide (x4>=(0:Int)) then
  if 0<=x4/\x4<(List.length x0:Int) then (aw k x3 (65536:Int) (wrap64 (shr .u32 (cE (t:=(.int .u32)) x0 x4:Int) (16:Int)))).bind fun (v1:List Int) =>
  if 0<=x4/\x4<(List.length x0:Int) then (aw k v1 (65536:Int) (wrap64 (Go.bits .and .u32 (cE (t:=(.int .u32)) x0 x4:Int) (65535:Int)))).bind fun (v2:List Int) =>
  bQ.l0 k m0 x0 v2 (wrap64 (x4-(1:Int))) else none else none
 else
  some x3:=by
 kernel_rfl
theorem uG (k:Nat) (a0:aA):jc (k+1) a0 =
 (bB k a0).bind fun (v1:Bool) =>
 bif !v1 then
  some (((0:Int),[],()),(2:Int),())
 else
  (gO k a0).bind fun (v2:aA) =>
  some (v2,(0:Int),()):=by
 kernel_rfl
theorem ng (k:Nat) (a0:bJ) (a1:bJ):fp (k+1) a0 a1 =
 (bif a0.1==a1.1 then (aB k a0.2.1 a1.2.1).bind fun (v1:Bool) =>
 some v1 else some false).bind fun (b2:Bool) =>
 (bif b2 then (aB k a0.2.2.1 a1.2.2.1).bind fun (v3:Bool) =>
 some v3 else some false).bind fun (b4:Bool) =>
 some b4:=by
 kernel_rfl
theorem nd (k:Nat):im (k+1) =
 some (false,[],[(1:Int)],()):=by
 kernel_rfl
theorem nX (k:Nat) (a0:List Int) (a1:List Int):ax (k+1) a0 a1=P.ax.f k a0 a1:=by
 kernel_rfl
theorem fv (k:Nat) (a0:Bool) (a1:List Int) (a2:List Int):eJ (k+1) a0 a1 a2 =
 bif (List.length a1:Int)==(0:Int) then
  (im k ).bind fun (v1:bJ) =>
  some v1
 else
  (bif (List.length a2:Int)==(1:Int) then if 0<=(0:Int)/\(0:Int)<(List.length a2:Int) then some ((cE (t:=(.int .i64)) a2 (0:Int):Int)==(1:Int)) else none else some false).bind fun (b2:Bool) =>
  bif b2 then
   some (a0,a1,a2,())
  else
   (ay k a1 a2).bind fun (v3:List Int) =>
   (bif (List.length v3:Int)==(1:Int) then if 0<=(0:Int)/\(0:Int)<(List.length v3:Int) then some ((cE (t:=(.int .i64)) v3 (0:Int):Int)==(1:Int)) else none else some false).bind fun (b4:Bool) =>
   bif b4 then
    some (a0,a1,a2,())
   else
    (aF k a1 v3).bind fun (v5:List Int×List Int×Unit) =>
    (aF k a2 v3).bind fun (v6:List Int×List Int×Unit) =>
    some (a0,v5.1,v6.1,()):=by
 kernel_rfl
theorem n9 (k:Nat) (a0:List Int) (a1:List Int):az (k+1) a0 a1=P.az.f k a0 a1:=by
 kernel_rfl
theorem n7 (k:Nat) (a0:List Int) (a1:List Int):aJ (k+1) a0 a1=P.aJ.f k a0 a1:=by
 kernel_rfl
theorem nW (k:Nat) (a0:List Int) (a1:List Int):aN (k+1) a0 a1=P.aN.f k a0 a1:=by
 kernel_rfl
theorem xv (k:Nat) (a0:aA):eG (k+1) a0 =
 eG.l0 k k (-1:Int) a0.2.1 (List.length a0.2.1:Int) (0:Int):=by
 kernel_rfl
theorem eG.aM (k m0:Nat) (x3:Int) (x7:List ah) (x8:Int) (x9:Int):eG.l0 k (m0+1) x3 x7 x8 x9 =
 bif decide (x9<x8) then
  if 0<=x9/\x9<(List.length x7:Int) then (fO k ((cE (t:=aj) x7 x9:ah).1)).bind fun (v1:Int) =>
  eG.l0 k m0 (mx x3 v1) x7 x8 (wrap64 (x9+(1:Int))) else none
 else
  some x3:=by
 kernel_rfl
theorem rP (k:Nat) (a0:Int) (a1:bJ):pS (k+1) a0 a1 =
 (iB k a1).bind fun (v1:Int) =>
 bif v1==(0:Int) then
  (vO k a0).bind fun (v2:aA) =>
  some v2
 else
  if 0<=a0/\a0<=a0/\8*(Int.toNat a0)<=281474976710656/\(Int.toNat a0)<=maxLen then (se k a1).bind fun (v3:bJ) =>
  some (a0,[(List.replicate (Int.toNat a0) ((0:Int):Int),v3,())],()) else none:=by
 kernel_rfl
theorem oG (k:Nat) (a0:aA) (a1:Int):k8 (k+1) a0 a1 =
 (bB k a0).bind fun (v1:Bool) =>
 bif !v1 then
  some (3:Int)
 else
  (bif decide (a1<(0:Int)) then some true else some (decide (a1>=a0.1))).bind fun (b2:Bool) =>
  bif b2 then
   some (1:Int)
  else
   some (0:Int):=by
 kernel_rfl
theorem uI (k:Nat) (a0:aA) (a1:Int):dV (k+1) a0 a1 =
 dV.l0 k k a1 (-1:Int) a0.2.1 (List.length a0.2.1:Int) (0:Int):=by
 kernel_rfl
theorem dV.aM (k m0:Nat) (x1:Int) (x5:Int) (x9:List ah) (x10:Int) (x11:Int):dV.l0 k (m0+1) x1 x5 x9 x10 x11 =
 bif decide (x11<x10) then
  if 0<=x11/\x11<(List.length x9:Int) then if 0<=x1/\x1<(List.length ((cE (t:=aj) x9 x11:ah).1):Int) then dV.l0 k m0 x1 (mx x5 (cE (t:=(.int .i64)) ((cE (t:=aj) x9 x11:ah).1) x1:Int)) x9 x10 (wrap64 (x11+(1:Int))) else none else none
 else
  some x5:=by
 kernel_rfl
theorem BH (k:Nat) (a0:aA) (a1:Int) (a2:Int):eY (k+1) a0 a1 a2 =
 eY.l0 k k a1 a2 a0.2.1 (List.length a0.2.1:Int) (0:Int) ((0:Int),[],()) a0.1 ([]:List ah):=by
 kernel_rfl
theorem eY.aM (k m0:Nat) (x1:Int) (x2:Int) (x15:List ah) (x16:Int) (x17:Int) (r6:aA) (q7_0:Int) (r13:List ah):eY.l0 k (m0+1) x1 x2 x15 x16 x17 r6 q7_0 r13 =
 bif decide (x17<x16) then
  if 0<=x17/\x17<(List.length x15:Int) then if 0<=x1/\x1<(List.length ((cE (t:=aj) x15 x17:ah).1):Int) then bif (cE (t:=(.int .i64)) ((cE (t:=aj) x15 x17:ah).1) x1:Int)==x2 then
   if List.length ((cE (t:=aj) x15 x17:ah).1)*8<=140737488355328 then if 0<=x1/\x1<(List.length ((cE (t:=aj) x15 x17:ah).1):Int) then if (List.length r13+List.length ([(List.set ((cE (t:=aj) x15 x17:ah).1) (Int.toNat x1) (0:Int),((cE (t:=aj) x15 x17:ah).2).1,())]))*80<=140737488355328 then eY.j0 k m0 x1 x2 x15 x16 x17 r6 q7_0 (r13++([(List.set ((cE (t:=aj) x15 x17:ah).1) (Int.toNat x1) (0:Int),((cE (t:=aj) x15 x17:ah).2).1,())])) else none else none else none
  else
   eY.j0 k m0 x1 x2 x15 x16 x17 r6 q7_0 r13 else none else none
 else
  some (q7_0,r13,()):=by
 kernel_rfl
theorem uf (k:Nat) (a0:Int):vO (k+1) a0 =
 some (a0,[],()):=by
 kernel_rfl
theorem D7 (k:Nat):zB (k+1) =
 (Fv k (1:Int)).bind fun (v1:bJ) =>
 some v1:=by
 kernel_rfl
theorem DY (k:Nat) (a0:aA) (a1:aA):dI (k+1) a0 a1 =
 dI.l0 k k (0:Int) (0:Int) a0 a1 ((0:Int),[],()) a0.1 ([]:List ah):=by
 kernel_rfl
theorem dI.aM (k m0:Nat) (x6:Int) (x7:Int) (r2:aA) (r3:aA) (r4:aA) (q5_0:Int) (r12:List ah):dI.l0 k (m0+1) x6 x7 r2 r3 r4 q5_0 r12 =
 (bif decide (x6<(List.length r2.2.1:Int)) then some true else some (decide (x7<(List.length r3.2.1:Int)))).bind fun (b1:Bool) =>
 bif b1 then
  bif x6==(List.length r2.2.1:Int) then
   dI.j0 k m0 x6 x7 (-1:Int) r2 r3 r4 q5_0 r12
  else
   bif x7==(List.length r3.2.1:Int) then
    dI.j0 k m0 x6 x7 (1:Int) r2 r3 r4 q5_0 r12
   else
    if 0<=x6/\x6<(List.length r2.2.1:Int) then if 0<=x7/\x7<(List.length r3.2.1:Int) then (fb k ((cE (t:=aj) r2.2.1 x6:ah).1) ((cE (t:=aj) r3.2.1 x7:ah).1)).bind fun (v2:Int) =>
    dI.j0 k m0 x6 x7 v2 r2 r3 r4 q5_0 r12 else none else none
 else
  some (q5_0,r12,()):=by
 kernel_rfl
theorem lN (k:Nat) (a0:List Int) (a1:List Int):bK (k+1) a0 a1 =
 bK.l0 k k (0:Int) a0 a1:=by
 kernel_rfl
theorem bK.aM (k m0:Nat) (x6:Int) (r2:List Int) (r3:List Int):bK.l0 k (m0+1) x6 r2 r3 =
 bif decide (x6<(8:Int)) then
  if 0<=x6/\x6<(8:Int) then if 0<=x6/\x6<(8:Int) then bif (xk (0:Int) 8 r2 x6:Int) != (xk (0:Int) 8 r3 x6:Int) then
   if 0<=x6/\x6<(8:Int) then if 0<=x6/\x6<(8:Int) then some (decide ((xk (0:Int) 8 r2 x6:Int)>(xk (0:Int) 8 r3 x6:Int))) else none else none
  else
   bK.l0 k m0 (wrap64 (x6+(1:Int))) r2 r3 else none else none
 else
  some false:=by
 kernel_rfl
theorem mq (k:Nat) (a0:List Int):aE (k+1) a0=P.aE.f k a0:=by
 kernel_rfl
theorem mX (k:Nat) (a0:List Int) (a1:Int):jD (k+1) a0 a1 =
 (bif decide ((List.length a0:Int)<=a1) then (bif (List.length a0:Int)==(0:Int) then some true else if 0<=(wrap64 ((List.length a0:Int)-(1:Int)))/\(wrap64 ((List.length a0:Int)-(1:Int)))<(List.length a0:Int) then some ((cE (t:=(.int .u32)) a0 (wrap64 ((List.length a0:Int)-(1:Int))):Int) != (0:Int)) else none).bind fun (b1:Bool) =>
 some b1 else some false).bind fun (b2:Bool) =>
 some b2:=by
 kernel_rfl
theorem El (k:Nat) (a0:List Int) (a1:List Int):cd (k+1) a0 a1=P.cd.f k a0 a1:=by
 kernel_rfl
theorem DV (k:Nat) (a0:aA) (a1:aA):fP (k+1) a0 a1 =
 fP.l0 k k a0.2.1 (List.length a0.2.1:Int) (0:Int) a0 a1 ((0:Int),[],()) ([]:List ah):=by
 kernel_rfl
theorem fP.aM (k m0:Nat) (x9:List ah) (x10:Int) (x11:Int) (r2:aA) (r3:aA) (r4:aA) (r5:List ah):fP.l0 k (m0+1) x9 x10 x11 r2 r3 r4 r5 =
 bif decide (x11<x10) then
  if 0<=x11/\x11<(List.length x9:Int) then (cR k r3 (cE (t:=aj) x9 x11:ah)).bind fun (v1:aA) =>
  if (List.length r5+List.length v1.2.1)*80<=140737488355328 then bif decide ((List.length (r5++v1.2.1):Int)>(65536:Int)) then
   (bf k r2.1 (r5++v1.2.1)).bind fun (v2:aA) =>
   none
  else
   fP.j0 k m0 x9 x10 x11 r2 r3 r4 (r5++v1.2.1) else none else none
 else
  (bf k r2.1 r5).bind fun (v3:aA) =>
  some v3:=by
 kernel_rfl
theorem mr (k:Nat) (a0:List Int):bS (k+1) a0=P.bS.f a0:=by
 kernel_rfl
theorem nY (k:Nat) (a0:List Int) (a1:List Int):ay (k+1) a0 a1=P.ay.f k a0 a1:=by
 kernel_rfl
theorem mu (k:Nat) (a0:List Int) (a1:Int) (a2:Int):aw (k+1) a0 a1 a2=P.aw.f k a0 a1 a2:=by
 kernel_rfl
theorem vX (k:Nat) (a0:bJ) (a1:bJ):gC (k+1) a0 a1 =
 (dP k a0.2.2.1 a1.2.2.1).bind fun (v1:Int) =>
 bif v1 != (0:Int) then
  (bI k a0.2.1 a1.2.2.1).bind fun (v2:List Int) =>
  (bI k a1.2.1 a0.2.2.1).bind fun (v3:List Int) =>
  (bI k a0.2.2.1 a1.2.2.1).bind fun (v4:List Int) =>
  gC.j0 k v2 v3 v4 a0 a1 (false,[],[],())
 else
  gC.j0 k a0.2.1 a1.2.1 a0.2.2.1 a0 a1 (false,[],[],()):=by
 kernel_rfl
theorem BQ (k:Nat):oO (k+1) =
 some (false,[],[(1:Int)],()):=by
 kernel_rfl
theorem D9 (k:Nat) (a0:bJ) (a1:bJ):sb (k+1) a0 a1 =
 (bI k a0.2.1 a1.2.1).bind fun (v1:List Int) =>
 (bI k a0.2.2.1 a1.2.2.1).bind fun (v2:List Int) =>
 (eo k (a0.1 != a1.1) v1 v2).bind fun (v3:bJ) =>
 some v3:=by
 kernel_rfl
theorem BF (k:Nat) (a0:aA):gO (k+1) a0 =
 gO.l0 k k a0.2.1 (List.length a0.2.1:Int) (0:Int) a0 ((0:Int),[],()) a0.1 ([]:List ah):=by
 kernel_rfl
theorem gO.aM (k m0:Nat) (x10:List ah) (x11:Int) (x12:Int) (r1:aA) (r2:aA) (q3_0:Int) (r8:List ah):gO.l0 k (m0+1) x10 x11 x12 r1 r2 q3_0 r8 =
 bif decide (x12<x11) then
  if 0<=x12/\x12<(List.length x10:Int) then if 0<=(0:Int)/\(0:Int)<=r1.1/\8*(Int.toNat r1.1)<=281474976710656/\(Int.toNat r1.1)<=maxLen then if (List.length (List.replicate (Int.toNat (0:Int)) ((0:Int):Int))+List.length ((cE (t:=aj) x10 x12:ah).1))*8<=140737488355328 then (se k (((cE (t:=aj) x10 x12:ah).2).1)).bind fun (v1:bJ) =>
  if (List.length r8+List.length ([((List.replicate (Int.toNat (0:Int)) ((0:Int):Int))++((cE (t:=aj) x10 x12:ah).1),v1,())]))*80<=140737488355328 then gO.l0 k m0 x10 x11 (wrap64 (x12+(1:Int))) r1 r2 q3_0 (r8++([((List.replicate (Int.toNat (0:Int)) ((0:Int):Int))++((cE (t:=aj) x10 x12:ah).1),v1,())])) else none else none else none else none
 else
  some (q3_0,r8,()):=by
 kernel_rfl
theorem jR (k:Nat) (a0:List Int) (a1:List Int):aB (k+1) a0 a1=P.aB.f k a0 a1:=by
 kernel_rfl
theorem lO (k:Nat) (a0:List Int) (a1:List Int):aF (k+1) a0 a1=(P.aF.f k a0 a1).map fun r=>(r.1,r.2,()):=by
 kernel_rfl
theorem DQ (k:Nat) (a0:List Int):fO (k+1) a0 =
 fO.l0 k k (0:Int) a0 (List.length a0:Int) (0:Int):=by
 kernel_rfl
theorem fO.aM (k m0:Nat) (x3:Int) (x6:List Int) (x7:Int) (x8:Int):fO.l0 k (m0+1) x3 x6 x7 x8 =
 bif decide (x8<x7) then
  if 0<=x8/\x8<(List.length x6:Int) then fO.l0 k m0 (wrap64 (x3+(cE (t:=(.int .i64)) x6 x8:Int))) x6 x7 (wrap64 (x8+(1:Int))) else none
 else
  some x3:=by
 kernel_rfl
theorem BT (k:Nat) (a0:bJ):se (k+1) a0 =
 if List.length a0.2.1*4<=140737488355328 then if List.length a0.2.2.1*4<=140737488355328 then some (a0.1,a0.2.1,a0.2.2.1,()) else none else none:=by
 kernel_rfl
theorem Ea (k:Nat) (a0:Int):Fv (k+1) a0 =
 bif decide (a0<(0:Int)) then
  (dm k (IntKind.u64.wrap ((IntKind.u64.wrap (wrap64 (-(wrap64 (a0+(1:Int))))))+(1:Int)))).bind fun (v1:List Int) =>
  (eo k true v1 ([(1:Int)])).bind fun (v2:bJ) =>
  some v2
 else
  (dm k (IntKind.u64.wrap (a0))).bind fun (v3:List Int) =>
  (eo k false v3 ([(1:Int)])).bind fun (v4:bJ) =>
  some v4:=by
 kernel_rfl
theorem zq (k:Nat) (a0:aA) (a1:ah):cR (k+1) a0 a1 =
 cR.l0 k k a0.2.1 (List.length a0.2.1:Int) (0:Int) a0 a1 ((0:Int),[],()) a0.1 ([]:List ah):=by
 kernel_rfl
theorem cR.aM (k m0:Nat) (x14:List ah) (x15:Int) (x16:Int) (r2:aA) (r3:ah) (r4:aA) (q5_0:Int) (r12:List ah):cR.l0 k (m0+1) x14 x15 x16 r2 r3 r4 q5_0 r12 =
 bif decide (x16<x15) then
  if 0<=x16/\x16<(List.length x14:Int) then if 0<=r2.1/\r2.1<=r2.1/\8*(Int.toNat r2.1)<=281474976710656/\(Int.toNat r2.1)<=maxLen then cR.l1 k k m0 x14 x15 x16 (List.length (List.replicate (Int.toNat r2.1) ((0:Int):Int)):Int) (0:Int) r2 r3 r4 q5_0 r12 (cE (t:=aj) x14 x16:ah) (List.replicate (Int.toNat r2.1) ((0:Int):Int)) else none else none
 else
  some (q5_0,r12,()):=by
 kernel_rfl
theorem cR.eH (k m1:Nat) (m0:Nat) (x14:List ah) (x15:Int) (x16:Int) (x24:Int) (x25:Int) (r2:aA) (r3:ah) (r4:aA) (q5_0:Int) (r12:List ah) (r7:ah) (r22:List Int):cR.l1 k (m1+1) m0 x14 x15 x16 x24 x25 r2 r3 r4 q5_0 r12 r7 r22 =
 bif decide (x25<x24) then
  if 0<=x25/\x25<(List.length r7.1:Int) then if 0<=x25/\x25<(List.length r3.1:Int) then if 0<=x25/\x25<(List.length r22:Int) then cR.l1 k m1 m0 x14 x15 x16 x24 (wrap64 (x25+(1:Int))) r2 r3 r4 q5_0 r12 r7 (List.set r22 (Int.toNat x25) (wrap64 ((cE (t:=(.int .i64)) r7.1 x25:Int)+(cE (t:=(.int .i64)) r3.1 x25:Int)))) else none else none else none
 else
  (sb k r7.2.1 r3.2.1).bind fun (v1:bJ) =>
  if (List.length r12+List.length ([(r22,v1,())]))*80<=140737488355328 then cR.l0 k m0 x14 x15 (wrap64 (x16+(1:Int))) r2 r3 r4 q5_0 (r12++([(r22,v1,())])) else none:=by
 kernel_rfl
theorem vQ (k:Nat) (a0:Int) (a1:List ah):bf (k+1) a0 a1 =
 bf.l0 k k a0 [] a1 (List.length a1:Int) (0:Int) ((0:Int),[],()) ([]:List ah):=by
 kernel_rfl
theorem bf.aM (k m0:Nat) (x0:Int) (x5:List (ByteArray×Int)) (x16:List ah) (x17:Int) (x18:Int) (r4:aA) (r6:List ah):bf.l0 k (m0+1) x0 x5 x16 x17 x18 r4 r6 =
 bif decide (x18<x17) then
  if 0<=x18/\x18<(List.length x16:Int) then (gZ k ((cE (t:=aj) x16 x18:ah).1)).bind fun (v1:ByteArray) =>
  bif !(((oV x5 v1).2).1) then
   if (List.length r6+List.length ([(cE (t:=aj) x16 x18:ah)]))*80<=140737488355328 then bf.j0 k m0 x0 (V.ks x5 v1 (List.length r6:Int)) x16 x17 x18 r4 (r6++([(cE (t:=aj) x16 x18:ah)])) else none
  else
   if 0<=((oV x5 v1).1)/\((oV x5 v1).1)<(List.length r6:Int) then (gC k (((cE (t:=aj) r6 ((oV x5 v1).1):ah).2).1) (((cE (t:=aj) x16 x18:ah).2).1)).bind fun (v2:bJ) =>
   if 0<=((oV x5 v1).1)/\((oV x5 v1).1)<(List.length r6:Int) then bf.j0 k m0 x0 x5 x16 x17 x18 r4 (List.set r6 (Int.toNat ((oV x5 v1).1)) ((cE (t:=aj) r6 ((oV x5 v1).1):ah).1,v2,((cE (t:=aj) r6 ((oV x5 v1).1):ah).2).2)) else none else none else none
 else
  bf.l1 k k r6 (List.length r6:Int) (0:Int) r4 x0 ([]:List ah):=by
 kernel_rfl
theorem bf.eH (k m0:Nat) (x56:List ah) (x57:Int) (x58:Int) (r4:aA) (q12_0:Int) (r55:List ah):bf.l1 k (m0+1) x56 x57 x58 r4 q12_0 r55 =
 bif decide (x58<x57) then
  if 0<=x58/\x58<(List.length x56:Int) then (iB k (((cE (t:=aj) x56 x58:ah).2).1)).bind fun (v3:Int) =>
  bif v3 != (0:Int) then
   if (List.length r55+List.length ([(cE (t:=aj) x56 x58:ah)]))*80<=140737488355328 then bf.j1 k m0 x56 x57 x58 r4 q12_0 (r55++([(cE (t:=aj) x56 x58:ah)])) else none
  else
   bf.j1 k m0 x56 x57 x58 r4 q12_0 r55 else none
 else
  (Ba r55).bind fun (v4:List ah) =>
  some (q12_0,v4,()):=by
 kernel_rfl
theorem En (k:Nat) (a0:List Int) (a1:List Int):dP (k+1) a0 a1=P.dP.f k a0 a1:=by
 kernel_rfl
theorem Ej (k:Nat) (a0:List Int) (a1:List Int):bI (k+1) a0 a1=P.bI.f k a0 a1:=by
 kernel_rfl
theorem oQ (k:Nat) (a0:Bool) (a1:List Int) (a2:List Int):eo (k+1) a0 a1 a2 =
 bif (List.length a1:Int)==(0:Int) then
  (oO k ).bind fun (v1:bJ) =>
  some v1
 else
  (cd k a1 a2).bind fun (v2:List Int) =>
  (bif (List.length v2:Int) != (1:Int) then some true else if 0<=(0:Int)/\(0:Int)<(List.length v2:Int) then some ((cE (t:=(.int .u32)) v2 (0:Int):Int) != (1:Int)) else none).bind fun (b3:Bool) =>
  bif b3 then
   (aI k a1 v2).bind fun (v4:List Int×List Int×Unit) =>
   (aI k a2 v2).bind fun (v5:List Int×List Int×Unit) =>
   eo.j0 k a0 v4.1 v5.1 (false,[],[],())
  else
   eo.j0 k a0 a1 a2 (false,[],[],()):=by
 kernel_rfl
theorem Er (k:Nat) (a0:List Int) (a1:List Int):di (k+1) a0 a1=P.di.f k a0 a1:=by
 kernel_rfl
theorem Ef (k:Nat) (a0:List Int) (a1:List Int):dJ (k+1) a0 a1=P.dJ.f k a0 a1:=by
 kernel_rfl
theorem B9 (k:Nat) (a0:Int):dm (k+1) a0=P.dm.f k a0:=by
 kernel_rfl
theorem DS (k:Nat) (a0:List Int):gZ (k+1) a0 =
 if 0<=(0:Int)/\(0:Int)<=(wrap64 ((4:Int)*(List.length a0:Int)))/\1*(Int.toNat (wrap64 ((4:Int)*(List.length a0:Int))))<=281474976710656/\(Int.toNat (wrap64 ((4:Int)*(List.length a0:Int))))<=maxLen then gZ.l0 k k a0 (List.length a0:Int) (0:Int) (List.replicate (Int.toNat (0:Int)) ((0:Int):Int)) else none:=by
 kernel_rfl
theorem gZ.aM (k m0:Nat) (x10:List Int) (x11:Int) (x12:Int) (r9:List Int):gZ.l0 k (m0+1) x10 x11 x12 r9 =
 bif decide (x12<x11) then
  if 0<=x12/\x12<(List.length x10:Int) then if (List.length r9+List.length ([(shr .i64 (cE (t:=(.int .i64)) x10 x12:Int) (24:Int)) % 256,(shr .i64 (cE (t:=(.int .i64)) x10 x12:Int) (16:Int)) % 256,(shr .i64 (cE (t:=(.int .i64)) x10 x12:Int) (8:Int)) % 256,((cE (t:=(.int .i64)) x10 x12:Int)) % 256]))*1<=140737488355328 then gZ.l0 k m0 x10 x11 (wrap64 (x12+(1:Int))) (r9++([(shr .i64 (cE (t:=(.int .i64)) x10 x12:Int) (24:Int)) % 256,(shr .i64 (cE (t:=(.int .i64)) x10 x12:Int) (16:Int)) % 256,(shr .i64 (cE (t:=(.int .i64)) x10 x12:Int) (8:Int)) % 256,((cE (t:=(.int .i64)) x10 x12:Int)) % 256])) else none else none
 else
  some (strOfNums r9):=by
 kernel_rfl
theorem xx (k:Nat) (a0:List Int) (a1:List Int):aI (k+1) a0 a1=(P.aI.f k a0 a1).map fun r=>(r.1,r.2,()):=by
 kernel_rfl
end Go.Proofs.YtfbgaddecbiimaaGreatDoor.Q
end
section
namespace Go.Proofs.YtfbgaddecbiimaaGreatDoor.P
open Go.RowKit Go.Proofs.YtfbgaddecbiimaaGreatDoorW.PrintWords Go.Proofs.YtfbgaddecbiimaaGreatDoorW.PrintLast Go.Proofs.YtfbgaddecbiimaaGreatDoorW.PrintMore
theorem bC {α:Type} {c:Prop} [Decidable c] {f g:Nat->Option α} {r:α} (hc:c) (h:Ev f r):Ev (fun k=>if c then f k else g k) r:=by simpa only [if_pos hc] using h
theorem eD {α:Type} {c:Prop} [Decidable c] {f g:Nat->Option α} {r:α} (hc:¬ c) (h:Ev g r):Ev (fun k=>if c then f k else g k) r:=by simpa only [if_neg hc] using h
theorem jY {α β:Type} {o:Option α} {f:Nat->α->Option β} {a:α} {r:β} (h:o=some a) (k:Ev (fun n=>f n a) r):Ev (fun n=>o.bind (f n)) r:=by subst h;exact k
theorem aX {α:Type} (r:α):Ev (fun _=>some r) r:=⟨0,fun _ _=>rfl⟩
theorem jq {α:Type} {o:Option α} {r:α} (h:o=some r):Ev (fun _=>o) r:=⟨0,fun _ _=>h⟩
theorem cy {x:Int} (h0:-9223372036854775808<=x) (h1:x<=9223372036854775807):wrap64 x=x:=by unfold wrap64;omega
theorem u64 {x:Int} (h0:0<=x) (h1:x<18446744073709551616):IntKind.u64.wrap x=x:=by rw [IntKind.wrap_u64];omega
def vl (B:Int):List Int->Int
 | []=>0
 | x :: t=>x+B*vl B t
def Dg (B:Int) (l:List Int):Prop:=∀ x∈l,0<=x/\x<B
def Nm (l:List Int):Prop:=∀ h:l≠[],l.getLast h≠0
def Can (B:Int) (l:List Int) (n:Int):Prop:=Dg B l/\Nm l/\vl B l=n
section
variable {B:Int} {l a b:List Int}
theorem iS (B:Int) (a b:List Int):vl B (a++b)=vl B a+B ^ a.length*vl B b:=by
 induction a with
 | nil=>simp [vl]
 | cons x t ih =>
  simp only [List.cons_append,vl,ih,List.length_cons]
  grind
theorem kC (l:List Int) (i:Nat) (h:i<l.length):rd l (i:Int)=l[i]:=by simp [rd,h]
theorem dH (B:Int) (l:List Int) (i:Nat) (h:i<l.length):vl B (l.take (i+1))=vl B (l.take i)+rd l (i:Int)*B ^ i:=by
 rw [List.take_succ_eq_append_getElem h,iS,kC l i h,List.length_take,Nat.min_eq_left Q2]
 simp only [vl]
 grind
theorem take_set (l:List Int) (i:Nat) (v:Int) (h:i<l.length):(l.set i v).take (i+1)=l.take i++[v]:=by
 rw [List.take_succ_eq_append_getElem (by simpa using h),List.take_set_of_le Q2]
 simp
theorem gM (B:Int) (l:List Int) (i:Nat) (v:Int) (h:i<l.length):vl B ((l.set i v).take (i+1))=vl B (l.take i)+v*B ^ i:=by
 rw [take_set l i v h,iS,List.length_take,Nat.min_eq_left Q2]
 simp only [vl]
 grind
theorem Dg.nil (B:Int):Dg B []:=fun x hx=>by cases hx
theorem Dg.cons {x:Int} (h:Dg B (x :: l)):(0<=x/\x<B)/\Dg B l:=⟨h x Q3,fun y hy=>h y (by simp [hy])⟩
theorem Dg.mk {x:Int} (h0:0<=x) (h1:x<B) (h:Dg B l):Dg B (x :: l):=by
 intro y hy
 rcases List.mem_cons.1 hy with rfl | hy
 ·exact ⟨h0,h1⟩
 exact h y hy
theorem Dg.append (ha:Dg B a) (hb:Dg B b):Dg B (a++b):=by
 intro y hy
 rcases List.mem_append.1 hy with hy | hy
 ·exact ha y hy
 exact hb y hy
theorem Dg.take (h:Dg B l) (i:Nat):Dg B (l.take i):=fun x hx=>h x (List.mem_of_mem_take hx)
theorem Dg.drop (h:Dg B l) (i:Nat):Dg B (l.drop i):=fun x hx=>h x (List.mem_of_mem_drop hx)
theorem Dg.set (h:Dg B l) (i:Nat) {v:Int} (h0:0<=v) (h1:v<B):Dg B (l.set i v):=by
 intro x hx
 rcases List.mem_or_eq_of_mem_set hx with hx | rfl
 ·exact h x hx
 exact ⟨h0,h1⟩
theorem Dg.rep (hB:0<B) (n:Nat):Dg B (List.replicate n 0):=by
 intro x hx
 have:=(List.mem_replicate.1 hx).2
 omega
theorem Dg.take_set {i:Nat} {v:Int} (hi:i<l.length) (h':Dg B (l.take i)) (h0:0<=v) (h1:v<B):Dg B ((l.set i v).take (i+1)):=by
 rw [P.take_set l i v hi]
 exact h'.append (Dg.mk h0 h1 (Dg.nil B))
theorem dO (h:Dg B l) (i:Int) (h0:0<=i) (h1:i<l.length):0<=rd l i/\rd l i<B:=by
 obtain ⟨n,rfl⟩:=Int.eq_ofNat_of_zero_le h0
 rw [kC l n Q2]
 exact h _ (List.getElem_mem _)
theorem jb (hB:0<B) (n:Nat):0<B ^ n:=Int.pow_pos hB
theorem bN (hB:0<B):∀ {l:List Int},Dg B l->0<=vl B l
 | [],_=>by simp [vl]
 | x :: t,h=>by
  have h1:=h.cons
  have h2:=bN hB h1.2
  have h3:0<=B*vl B t:=Int.mul_nonneg Q2 h2
  simp only [vl]
  omega
theorem fW (hB:0<B):∀ {l:List Int},Dg B l->vl B l<B ^ l.length
 | [],_=>by simp [vl]
 | x :: t,h=>by
  have h1:=h.cons
  have h2:=fW hB h1.2
  have h3:B*(vl B t+1)<=B*B ^ t.length:=Int.mul_le_mul_of_nonneg_left Q2 Q2
  simp only [vl,List.length_cons]
  rw [Int.mul_add] at h3
  have h4:B ^ (t.length+1)=B*B ^ t.length:=by grind
  omega
theorem Nm.nil:Nm []:=fun h=>absurd rfl h
theorem Nm.tail {x:Int} (h:Nm (x :: l)):Nm l:=by
 intro hl
 have:=h Q3
 rwa [List.getLast_cons hl] at this
theorem yJ (hB:0<B):∀ {l:List Int},Dg B l->Nm l->l≠[]->0<vl B l
 | [],_,_,h=>absurd rfl h
 | [x],hd,hn,_=>by
  have h1:=hd.cons
  have h2:=hn Q3
  simp at h2
  simp [vl]
  omega
 | x :: y :: t,hd,hn,_=>by
  have h1:=hd.cons
  have h2:=yJ hB h1.2 hn.tail Q3
  have h3:0<B*vl B (y :: t):=Int.mul_pos hB h2
  rw [vl]
  omega
theorem vl_ge (hB:0<B):∀ {l:List Int},Dg B l->Nm l->l≠[]->B ^ (l.length-1)<=vl B l
 | [],_,_,h=>absurd rfl h
 | [x],hd,hn,_=>by
  have h1:=yJ hB hd hn Q3
  simp
  omega
 | x :: y :: t,hd,hn,_=>by
  have h1:=hd.cons
  have h2:=vl_ge hB h1.2 hn.tail Q3
  have h3:B*B ^ ((y :: t).length-1)<=B*vl B (y :: t):=Int.mul_le_mul_of_nonneg_left h2 Q2
  rw [vl]
  have h4:B ^ ((x :: y :: t).length-1)=B*B ^ ((y :: t).length-1):=by
   simp only [List.length_cons,Nat.add_sub_cancel]
   grind
  omega
theorem bu (hB:0<B):∀ {a b:List Int} {n:Int},Can B a n->Can B b n->a=b
 | [],[],_,_,_=>rfl
 | [],y :: t,n,h,h'=>by
  have h1:=yJ hB h'.1 h'.2.1 Q3
  have h2:=h.2.2
  have h3:=h'.2.2
  simp only [vl] at h2
  omega
 | x :: t,[],n,h,h'=>by
  have h1:=yJ hB h.1 h.2.1 Q3
  have h2:=h.2.2
  have h3:=h'.2.2
  simp only [vl] at h3
  omega
 | x :: s,y :: t,n,h,h'=>by
  have h1:=h.1.cons
  have h2:=h'.1.cons
  have h3:=h.2.2
  have h4:=h'.2.2
  simp only [vl] at h3 h4
  have e1:x=n % B:=by rw [<- h3,Int.add_mul_emod_self_left,Int.emod_eq_of_lt h1.1.1 h1.1.2]
  have e2:y=n % B:=by rw [<- h4,Int.add_mul_emod_self_left,Int.emod_eq_of_lt h2.1.1 h2.1.2]
  have e3:x=y:=Q2
  subst e3
  have e4:vl B s=vl B t:=Int.eq_of_mul_eq_mul_left (a:=B) Q2 Q2
  rw [bu hB (n:=vl B t) ⟨h1.2,h.2.1.tail,e4⟩ ⟨h2.2,h'.2.1.tail,rfl⟩]
theorem Can.fT (hB:0<B) {n:Int} (h:Can B l n):0<=n:=by rw [<- h.2.2];exact bN hB h.1
theorem Can.zero (B:Int):Can B [] 0:=⟨Dg.nil B,Nm.nil,rfl⟩
theorem Can.zC (hB:0<B) {n:Int} (h:Can B l n):l=[]↔n=0:=by
 constructor
 ·rintro rfl
  exact h.2.2.symm
 rintro rfl
 exact bu hB h (Can.zero B)
theorem Can.jj (hB:0<B) {n:Int} (h:Can B l n):l.length=0↔n=0:=by rw [<- h.zC hB];exact List.length_eq_zero_iff
theorem Can.lt (hB:0<B) {n:Int} (h:Can B l n):n<B ^ l.length:=by rw [<- h.2.2];exact fW hB h.1
theorem Can.ge (hB:0<B) {n:Int} (h:Can B l n) (h0:l.length≠0):B ^ (l.length-1)<=n:=by
 rw [<- h.2.2]
 exact vl_ge hB h.1 h.2.1 (fun e=>h0 (by rw [e];rfl))
theorem fj {B:Int} (hB:1<=B) {i j:Nat} (h:i<=j):B ^ i<=B ^ j:=by
 obtain ⟨d,rfl⟩:=Nat.exists_eq_add_of_le h
 rw [Int.pow_add]
 have h1:1<=B ^ d:=Int.pow_pos Q2
 have h2:B ^ i*1<=B ^ i*B ^ d:=Int.mul_le_mul_of_nonneg_left h1 (Int.le_of_lt (Int.pow_pos Q2))
 omega
theorem Can.tC (hB:1<B) {n m:Int} (h:Can B a n) (h':Can B b m) (hl:a.length<b.length):n<m:=by
 have h1:=h.lt Q2
 have h2:=h'.ge Q2 Q2
 have h3:=fj (B:=B) Q2 (show a.length<=b.length-1 by omega)
 omega
theorem Can.gx (hB:1<B) {n:Int} (h:Can B l n) {k:Nat} (hn:n<B ^ k):l.length<=k:=by
 rcases Nat.lt_or_ge k l.length with hk | hk
 ·have h1:=h.ge Q2 Q2
  have h2:=fj (B:=B) Q2 (show k<=l.length-1 by omega)
  omega
 exact hk
theorem Can.len_ge (hB:1<B) {n:Int} (h:Can B l n) {k:Nat} (hn:B ^ k<=n):k<l.length:=by
 rcases Nat.lt_or_ge k l.length with hk | hk
 ·exact hk
 have h1:=h.lt Q2
 have h2:=fj (B:=B) Q2 hk
 omega
theorem gV (B:Int) (l:List Int) (i:Nat) (h:i<=l.length):vl B l=vl B (l.take i)+B ^ i*vl B (l.drop i):=by
 conv=>lhs;rw [<- List.take_append_drop i l]
 rw [iS,List.length_take,Nat.min_eq_left h]
theorem GH (l:List Int) (i j:Int) (v:Int) (h:i.toNat≠j.toNat):rd (l.set i.toNat v) j=rd l j:=by
 simp only [rd,List.getD_eq_getElem?_getD]
 rw [List.getElem?_set_ne h]
theorem xW (l:List Int) (i:Int) (v:Int) (h:i.toNat<l.length):rd (l.set i.toNat v) i=v:=by
 simp only [rd,List.getD_eq_getElem?_getD]
 rw [List.getElem?_set_self h]
 rfl
theorem KI (l:List Int) (j:Int) (i:Nat) (h:j.toNat<i):rd (l.take i) j=rd l j:=by
 simp only [rd,List.getD_eq_getElem?_getD]
 rw [List.getElem?_take_of_lt h]
theorem wD (l:List Int) (h:l≠[]):l.getLast h=rd l ((l.length:Int)-1):=by
 have hp:0<l.length:=List.length_pos_iff.2 h
 rw [List.getLast_eq_getElem]
 have e:(l.length:Int)-1=((l.length-1:Nat):Int):=Q2
 rw [e,kC _ _ Q2]
theorem oU (h:0<l.length->rd l ((l.length:Int)-1)≠0):Nm l:=by
 intro hl
 rw [wD l hl]
 exact h (List.length_pos_iff.2 hl)
theorem Nm.rd (h:Nm l) (hp:0<l.length):rd l ((l.length:Int)-1)≠0:=by
 have hl:l≠[]:=List.ne_nil_of_length_pos hp
 rw [<- wD l hl]
 exact h hl
theorem yI (B:Int) (n:Nat):vl B (List.replicate n 0)=0:=by
 induction n with
 | zero=>rfl
 | succ n ih=>simp [List.replicate_succ,vl,ih]
theorem EL (hB:1<B) (n:Nat):∃ l,Can B l (n:Int):=by
 induction n using Nat.strongRecOn with
 | _ n ih =>
  by_cases h0:n=0
  ·subst h0
   exact ⟨[],Can.zero B⟩
  have b:((n:Int) / B).toNat<n:=by
   have h1:(n:Int) / B<n:=Int.ediv_lt_self_of_pos_of_ne_one Q2 Q2
   have h2:0<=(n:Int) / B:=Int.ediv_nonneg Q2 Q2
   omega
  obtain ⟨l,h1,h2,h3⟩:=ih _ b
  have h4:0<=(n:Int) / B:=Int.ediv_nonneg Q2 Q2
  have hm:=Int.emod_nonneg (n:Int) (show B≠0 by omega)
  have c:=Int.emod_lt_of_pos (n:Int) (show 0<B by omega)
  have h5:vl B ((n:Int) % B :: l)=n:=by
   rw [vl,h3,Int.toNat_of_nonneg h4]
   exact Int.emod_add_mul_ediv _ _
  refine ⟨(n:Int) % B :: l,Dg.mk hm c h1,?_,h5⟩
  intro hne
  rcases List.eq_nil_or_concat l with hl | ⟨_,_,hl⟩
  ·subst hl
   simp only [vl,Int.mul_zero,Int.add_zero] at h5
   simp only [List.getLast_singleton]
   omega
  have a:l≠[]:=by rw [hl];simp
  rw [List.getLast_cons a]
  exact h2 a
theorem JQ (hB:1<B) {n:Int} (h:0<=n):∃ l,Can B l n:=by
 obtain ⟨k,rfl⟩:=Int.eq_ofNat_of_zero_le h
 exact EL hB k
end
abbrev WW:Int:=4294967296
theorem aH:(0:Int)<WW:=by decide
theorem bw:(1:Int)<WW:=by decide
theorem cS:WW=4294967296:=rfl
theorem LN {vo va vb P c c' v x y W:Int} (h:vo+c*P=va+vb) (h2:v+W*c'=c+x+y):vo+v*P+c'*(W*P)=(va+x*P)+(vb+y*P):=by grind
theorem J9 {vo va vb P c c' v x W:Int} (h:vo+c*P=va+vb) (h2:v+W*c'=c+x):vo+v*P+c'*(W*P)=(va+x*P)+vb:=by grind
theorem J5 {vo c P n W:Int} (h:vo+c*P=n):vo+P*(c+W*0)=n:=by grind
theorem fM {i:Nat} (h:i<4611686018427387904):wrap64 ((i:Int)+1)=((i+1:Nat):Int):=by rw [cy Q2 Q2];omega
theorem B7 (n:Nat):∀ (l:List Int),l.length=n->n<4611686018427387904->Dg WW l->∃ r,Ev (fun k=>cx.l0 k l) r/\Can WW r (vl WW l)/\r.length<=l.length:=by
 induction n with
 | zero =>
  intro l hl _ hd
  have e:l=[]:=List.eq_nil_of_length_eq_zero hl
  subst e
  refine ⟨[],?_,Can.zero _,Nat.le_refl _⟩
  refine Ev.step (fun k=>by rw [cx.l0]) ?_
  exact eD Q3 (aX _)
 | succ n ih =>
  intro l hl hn hd
  have ew:wrap64 ((l.length:Int)-1)=(n:Int):=by rw [cy Q2 Q2];omega
  by_cases hz:rd l n=0
  ·obtain ⟨r,h1,h2,h3⟩:=ih (l.take n) (by rw [List.length_take];omega) Q2 (hd.take n)
   refine ⟨r,?_,?_,?_⟩
   ·refine Ev.step (fun k=>by rw [cx.l0]) ?_
    rw [ew]
    refine bC Q2 (bC Q2 (bC Q2 (bC hz (bC Q2 ?_))))
    simpa using h1
   ·have h4:=dH WW l n Q2
    rw [hz,show n+1=l.length by omega,List.take_length] at h4
    rw [h4]
    simpa using h2
   rw [List.length_take] at h3
   omega
  refine ⟨l,?_,⟨hd,oU (fun _=>?_),rfl⟩,Nat.le_refl _⟩
  ·refine Ev.step (fun k=>by rw [cx.l0]) ?_
   rw [ew]
   exact bC Q2 (bC Q2 (bC Q2 (eD hz (aX _))))
  rw [hl]
  have e:(((n+1:Nat):Int)-1)=(n:Int):=Q2
  rw [e]
  exact hz
theorem fH {l:List Int} (hn:l.length<4611686018427387904) (hd:Dg WW l):∃ r,Ev (fun k=>cx.f k l) r/\Can WW r (vl WW l)/\r.length<=l.length:=by
 obtain ⟨r,h1,h2⟩:=B7 l.length l rfl hn hd
 exact ⟨r,Ev.congr (fun k=>by rw [cx.f]) h1,h2⟩
theorem gP {a:Int} (h0:0<=a) (h1:a<18446744073709551616):∃ r,Ev (fun k=>dm.f k a) r/\Can WW r a:=by
 have hW:=cS
 have hd:Dg WW [a % 4294967296,(a / 4294967296) % 4294967296]:=Dg.mk Q2 Q2 (Dg.mk Q2 Q2 (Dg.nil _))
 obtain ⟨r,h2,h3,_⟩:=fH Q3 hd
 refine ⟨r,?_,?_⟩
 ·unfold dm.f
  exact Ev.bind h2 (aX _)
 have e:vl WW [a % 4294967296,(a / 4294967296) % 4294967296]=a:=by
  simp only [vl,Int.mul_zero,Int.add_zero,cS]
  omega
 rw [<- e]
 exact h3
theorem Em {a b:List Int} (hl:a.length=b.length) (hn:a.length<4611686018427387904) (ha:Dg WW a) (hb:Dg WW b) (d:Nat) :
 ∀ (i:Nat),i=d->i<=a.length->vl WW (a.drop i)=vl WW (b.drop i)->∃ r,Ev (fun k=>dP.l0 k a b ((i:Int)-1)) r/\(r = -1/\vl WW a<vl WW b∨r=0/\vl WW a=vl WW b∨r=1/\vl WW b<vl WW a):=by
 induction d with
 | zero =>
  rintro i rfl h1 h2
  refine ⟨0,?_,.inr (.inl ⟨rfl,by simpa using h2⟩)⟩
  refine Ev.step (fun k=>by rw [dP.l0]) ?_
  exact eD Q2 (aX _)
 | succ d ih =>
  rintro i rfl h1 h2
  have e1:(((d+1:Nat):Int)-1)=(d:Int):=Q2
  rw [e1]
  have h3:=gV WW a d Q2
  have h4:=gV WW b d Q2
  have ea:a.drop d=rd a d :: a.drop (d+1):=by rw [kC a d Q2];exact (List.drop_eq_getElem_cons Q2)
  have eb:b.drop d=rd b d :: b.drop (d+1):=by rw [kC b d Q2];exact (List.drop_eq_getElem_cons Q2)
  have ta:=fW aH (ha.take d)
  have tb:=fW aH (hb.take d)
  have e:=bN aH (ha.take d)
  have c:=bN aH (hb.take d)
  rw [List.length_take,Nat.min_eq_left Q2] at ta tb
  by_cases he:rd a d=rd b d
  ·obtain ⟨r,h5,h6⟩:=ih d rfl Q2 (by rw [ea,eb,vl,vl,he,h2])
   refine ⟨r,?_,h6⟩
   refine Ev.step (fun k=>by rw [dP.l0]) ?_
   rw [cy Q2 Q2]
   exact bC Q2 (bC Q2 (bC Q2 (bC Q2 (bC he h5))))
  have h7:vl WW (a.drop d)=rd a d+WW*vl WW (a.drop (d+1)):=by rw [ea,vl]
  have h8:vl WW (b.drop d)=rd b d+WW*vl WW (b.drop (d+1)):=by rw [eb,vl]
  have hp:0<WW ^ d:=Int.pow_pos aH
  by_cases hlt:rd a d<rd b d
  ·refine ⟨-1,?_,.inl ⟨rfl,?_⟩⟩
   ·refine Ev.step (fun k=>by rw [dP.l0]) ?_
    exact bC Q2 (bC Q2 (bC Q2 (bC Q2 (eD he (bC hlt (aX _))))))
   have h9:WW ^ d*(vl WW (a.drop d)+1)<=WW ^ d*vl WW (b.drop d):=Int.mul_le_mul_of_nonneg_left (by rw [h7,h8,h2];omega) Q2
   rw [Int.mul_add] at h9
   omega
  refine ⟨1,?_,.inr (.inr ⟨rfl,?_⟩)⟩
  ·refine Ev.step (fun k=>by rw [dP.l0]) ?_
   exact bC Q2 (bC Q2 (bC Q2 (bC Q2 (eD he (eD hlt (aX _))))))
  have h9:WW ^ d*(vl WW (b.drop d)+1)<=WW ^ d*vl WW (a.drop d):=Int.mul_le_mul_of_nonneg_left (by rw [h7,h8,h2];omega) Q2
  rw [Int.mul_add] at h9
  omega
def dD (n m:Int):Int:=if n<m then -1 else if n=m then 0 else 1
theorem qQ {a b:List Int} {n m:Int} (hn:a.length<4611686018427387904) (ha:Can WW a n) (hb:Can WW b m):Ev (fun k=>dP.f k a b) (dD n m):=by
 unfold dP.f
 by_cases hl:a.length=b.length
 ·obtain ⟨r,h1,h2⟩:=Em hl hn ha.1 hb.1 a.length a.length rfl (Nat.le_refl _) (by rw [List.drop_length,hl,List.drop_length])
  have e:r=dD n m:=by
   rw [ha.2.2,hb.2.2] at h2
   unfold dD
   rcases h2 with ⟨rfl,h⟩ | ⟨rfl,h⟩ | ⟨rfl,h⟩
   ·rw [if_pos h]
   ·rw [if_neg Q2,if_pos h]
   rw [if_neg Q2,if_neg Q2]
  rw [<- e]
  refine bC Q2 ?_
  rw [cy Q2 Q2]
  exact h1
 refine eD Q2 ?_
 unfold dD
 by_cases h:a.length<b.length
 ·have:=Can.tC bw ha hb h
  rw [if_pos this]
  exact bC Q2 (aX _)
 have:=Can.tC bw hb ha Q2
 rw [if_neg (show ¬ n<m by omega),if_neg (show ¬ n=m by omega)]
 exact eD Q2 (aX _)
theorem Ep {a b:List Int} (hba:b.length<=a.length) (hn:a.length<1099511627776) (ha:Dg WW a) (hb:Dg WW b) (d:Nat) :
 ∀ (i:Nat) (o:List Int) (c:Int),a.length-i=d->i<=a.length->o.length=a.length+1->Dg WW (o.take i)->0<=c->c<=1->vl WW (o.take i)+c*WW ^ i=vl WW (a.take i)+vl WW (b.take i) ->
 ∃ r,Ev (fun k=>di.l0 k a b o c a (a.length:Int) (i:Int)) r/\Can WW r (vl WW a+vl WW b)/\r.length<=a.length+1:=by
 induction d with
 | zero =>
  intro i o c h1 h2 h3 h4 h5 h6 h7
  have e:i=a.length:=Q2
  subst e
  have f:o.set a.length c=o.take a.length++[c]:=by
   have:=P.take_set o a.length c Q2
   rw [show a.length+1=(o.set a.length c).length by simp [h3],List.take_length] at this
   exact this
  have hd:Dg WW (o.set a.length c):=by rw [f];exact h4.append (Dg.mk h5 (by have:=bw;omega) (Dg.nil _))
  obtain ⟨r,h8,h9,g⟩:=fH (l:=o.set a.length c) (by simp;omega) hd
  have hv:vl WW (o.set a.length c)=vl WW a+vl WW b:=by
   rw [f,iS,List.length_take,Nat.min_eq_left Q2]
   rw [List.take_length,List.take_of_length_le hba] at h7
   simp only [vl]
   exact J5 h7
  refine ⟨r,?_,by rw [<- hv];exact h9,by simp at g;omega⟩
  refine Ev.step (fun k=>by rw [di.l0]) ?_
  refine eD Q2 (bC Q2 (bC Q2 ?_))
  have ec:c % 4294967296=c:=Q2
  rw [ec,show ((a.length:Int)).toNat=a.length by omega]
  exact Ev.bind h8 (aX _)
 | succ d ih =>
  intro i o c h1 h2 h3 h4 h5 h6 h7
  have hi:i<a.length:=Q2
  have hx:=dO ha (i:Int) Q2 Q2
  have ti:=dH WW a i hi
  have ep:WW ^ (i+1)=WW*WW ^ i:=by rw [Int.pow_succ,Int.mul_comm]
  have hW:=cS
  by_cases hib:i<b.length
  ·have hy:=dO hb (i:Int) Q2 Q2
   have tb:=dH WW b i hib
   have ev:(c+rd a i+rd b i) % 4294967296+WW*((c+rd a i+rd b i) / 4294967296)=c+rd a i+rd b i:=by rw [cS];omega
   obtain ⟨r,h8,h9⟩:=ih (i+1) (o.set i ((c+rd a i+rd b i) % 4294967296)) ((c+rd a i+rd b i) / 4294967296) Q2 Q2 (by simpa using h3)
    (Dg.take_set Q2 h4 Q2 Q2) Q2 Q2
    (by rw [gM _ _ _ _ Q2,ti,tb,ep];exact LN h7 ev)
   refine ⟨r,?_,h9⟩
   refine Ev.step (fun k=>by rw [di.l0]) ?_
   rw [u64 (x:=rd a i) Q2 Q2,u64 (x:=rd b i) Q2 Q2,u64 (x:=c+rd a i) Q2 Q2,u64 (x:=c+rd a i+rd b i) Q2 Q2,fM Q2]
   exact bC Q2 (bC Q2 (bC Q2 (bC Q2 (bC Q2 h8))))
  have tb:vl WW (b.take (i+1))=vl WW (b.take i):=by rw [List.take_of_length_le Q2,List.take_of_length_le Q2]
  have ev:(c+rd a i) % 4294967296+WW*((c+rd a i) / 4294967296)=c+rd a i:=by rw [cS];omega
  obtain ⟨r,h8,h9⟩:=ih (i+1) (o.set i ((c+rd a i) % 4294967296)) ((c+rd a i) / 4294967296) Q2 Q2 (by simpa using h3)
   (Dg.take_set Q2 h4 Q2 Q2) Q2 Q2
   (by rw [gM _ _ _ _ Q2,ti,tb,ep];exact J9 h7 ev)
  refine ⟨r,?_,h9⟩
  refine Ev.step (fun k=>by rw [di.l0]) ?_
  rw [u64 (x:=rd a i) Q2 Q2,u64 (x:=c+rd a i) Q2 Q2,fM Q2]
  exact bC Q2 (bC Q2 (bC Q2 (eD Q2 (bC Q2 h8))))
theorem yp {a b:List Int} (hba:b.length<=a.length) (hn:a.length<1099511627776) (ha:Dg WW a) (hb:Dg WW b):∃ r,Ev (fun k=>di.j0 k a b) r/\Can WW r (vl WW a+vl WW b)/\r.length<=a.length+1:=by
 obtain ⟨r,h1,h2⟩:=Ep hba hn ha hb a.length 0 (List.replicate (a.length+1) 0) 0 Q2 Q2 Q3 (by simp;exact Dg.nil _) Q2 Q2 (by simp [vl])
 refine ⟨r,?_,h2⟩
 refine Ev.step (fun k=>by rw [di.j0]) ?_
 have e:wrap64 ((a.length:Int)+1)=((a.length+1:Nat):Int):=by rw [cy Q2 Q2];omega
 rw [e,Int.toNat_natCast]
 exact bC Q2 (bC Q2 h1)
theorem Eo {a b:List Int} {n m:Int} (hla:a.length<1099511627776) (hlb:b.length<1099511627776) (ha:Can WW a n) (hb:Can WW b m):∃ r,Ev (fun k=>di.f k a b) r/\Can WW r (n+m)/\r.length<=max a.length b.length+1:=by
 unfold di.f
 rw [<- ha.2.2,<- hb.2.2]
 by_cases h:a.length<b.length
 ·obtain ⟨r,h1,h2,h3⟩:=yp (a:=b) (b:=a) Q2 hlb hb.1 ha.1
  exact ⟨r,bC Q2 h1,by rw [Int.add_comm];exact h2,Q2⟩
 obtain ⟨r,h1,h2,h3⟩:=yp (a:=a) (b:=b) Q2 hla ha.1 hb.1
 exact ⟨r,eD Q2 h1,h2,Q2⟩
theorem Al {vo va vb P c c' v x y W:Int} (h:vo-c*P=va-vb) (h2:v-W*c'=x-c-y):vo+v*P-c'*(W*P)=(va+x*P)-(vb+y*P):=by grind
theorem xc {vo va vb P c c' v x W:Int} (h:vo-c*P=va-vb) (h2:v-W*c'=x-c):vo+v*P-c'*(W*P)=(va+x*P)-vb:=by grind
theorem borrow {x c y:Int} (hx:0<=x/\x<4294967296) (hc:0<=c/\c<=1) (hy:0<=y/\y<4294967296) :
 ∃ v c',IntKind.u64.wrap (IntKind.u64.wrap (IntKind.u64.wrap x-c)-y) % 4294967296=v/\IntKind.u64.wrap (IntKind.u64.wrap (IntKind.u64.wrap x-c)-y) / 9223372036854775808=c'/\v-4294967296*c'=x-c-y/\0<=v/\v<4294967296/\0<=c'/\c'<=1:=by
 rw [IntKind.wrap_u64,IntKind.wrap_u64,IntKind.wrap_u64]
 refine ⟨_,_,rfl,rfl,?_,?_,?_,?_,?_⟩<;>omega
theorem LF {x c:Int} (hx:0<=x/\x<4294967296) (hc:0<=c/\c<=1) :
 ∃ v c',IntKind.u64.wrap (IntKind.u64.wrap x-c) % 4294967296=v/\IntKind.u64.wrap (IntKind.u64.wrap x-c) / 9223372036854775808=c'/\v-4294967296*c'=x-c/\0<=v/\v<4294967296/\0<=c'/\c'<=1:=by
 rw [IntKind.wrap_u64,IntKind.wrap_u64]
 refine ⟨_,_,rfl,rfl,?_,?_,?_,?_,?_⟩<;>omega
theorem Ee {a b:List Int} (hba:b.length<=a.length) (hle:vl WW b<=vl WW a) (hn:a.length<1099511627776) (ha:Dg WW a) (hb:Dg WW b) (d:Nat) :
 ∀ (i:Nat) (o:List Int) (c:Int),a.length-i=d->i<=a.length->o.length=a.length->Dg WW (o.take i)->0<=c->c<=1->vl WW (o.take i)-c*WW ^ i=vl WW (a.take i)-vl WW (b.take i) ->
 ∃ r,Ev (fun k=>dJ.l0 k b o c a (a.length:Int) (i:Int)) r/\Can WW r (vl WW a-vl WW b)/\r.length<=a.length:=by
 induction d with
 | zero =>
  intro i o c h1 h2 h3 h4 h5 h6 h7
  have e:i=a.length:=Q2
  subst e
  rw [List.take_length,List.take_of_length_le hba,<- h3,List.take_length] at h7
  rw [<- h3,List.take_length] at h4
  have f:=fW aH h4
  have hc:c=0:=by
   rcases Int.lt_or_eq_of_le h6 with h | h
   ·omega
   subst h
   rw [Int.one_mul] at h7
   omega
  subst hc
  rw [Int.zero_mul,Int.sub_zero] at h7
  obtain ⟨r,h8,h9,g⟩:=fH (l:=o) Q2 h4
  refine ⟨r,?_,by rw [<- h7];exact h9,Q2⟩
  refine Ev.step (fun k=>by rw [dJ.l0]) ?_
  refine eD Q2 ?_
  exact Ev.bind h8 (aX _)
 | succ d ih =>
  intro i o c h1 h2 h3 h4 h5 h6 h7
  have hi:i<a.length:=Q2
  have hx:=dO ha (i:Int) Q2 Q2
  have ti:=dH WW a i hi
  have ep:WW ^ (i+1)=WW*WW ^ i:=by rw [Int.pow_succ,Int.mul_comm]
  by_cases hib:i<b.length
  ·have hy:=dO hb (i:Int) Q2 Q2
   have tb:=dH WW b i hib
   obtain ⟨v,c',e1,e2,e3,v0,v1,c0,c1⟩:=borrow hx ⟨h5,h6⟩ hy
   obtain ⟨r,h8,h9⟩:=ih (i+1) (o.set i v) c' Q2 Q2 (by simpa using h3) (Dg.take_set Q2 h4 v0 v1) c0 c1
    (by rw [gM _ _ _ _ Q2,ti,tb,ep];exact Al h7 e3)
   refine ⟨r,?_,h9⟩
   refine Ev.step (fun k=>by rw [dJ.l0]) ?_
   rw [u64 (x:=rd b i) hy.1 (by have:=hy.2;have:=cS;omega),e1,e2,fM Q2]
   exact bC Q2 (bC Q2 (bC Q2 (bC Q2 (bC Q2 h8))))
  have tb:vl WW (b.take (i+1))=vl WW (b.take i):=by rw [List.take_of_length_le Q2,List.take_of_length_le Q2]
  obtain ⟨v,c',e1,e2,e3,v0,v1,c0,c1⟩:=LF hx ⟨h5,h6⟩
  obtain ⟨r,h8,h9⟩:=ih (i+1) (o.set i v) c' Q2 Q2 (by simpa using h3) (Dg.take_set Q2 h4 v0 v1) c0 c1
   (by rw [gM _ _ _ _ Q2,ti,tb,ep];exact xc h7 e3)
  refine ⟨r,?_,h9⟩
  refine Ev.step (fun k=>by rw [dJ.l0]) ?_
  rw [e1,e2,fM Q2]
  exact bC Q2 (bC Q2 (bC Q2 (eD Q2 (bC Q2 h8))))
theorem kO {a b:List Int} {n m:Int} (ha:Can WW a n) (hb:Can WW b m) (h:m<=n):b.length<=a.length:=by
 rcases Nat.lt_or_ge a.length b.length with hl | hl
 ·have:=Can.tC bw ha hb hl
  omega
 exact hl
theorem qO {a b:List Int} {n m:Int} (hn:a.length<1099511627776) (ha:Can WW a n) (hb:Can WW b m) (hle:m<=n):∃ r,Ev (fun k=>dJ.f k a b) r/\Can WW r (n-m)/\r.length<=a.length:=by
 have c:=kO ha hb hle
 rw [<- ha.2.2,<- hb.2.2] at *
 obtain ⟨r,h1,h2⟩:=Ee c hle hn ha.1 hb.1 a.length 0 (List.replicate a.length 0) 0 Q2 Q2 Q3 (by simp;exact Dg.nil _) Q2 Q2 (by simp [vl])
 refine ⟨r,?_,h2⟩
 unfold dJ.f
 rw [Int.toNat_natCast]
 exact bC Q2 (bC Q2 h1)
theorem vd (B:Int) (l:List Int) (p q:Nat) (v:Int) (h:p<q) (hq:q<=l.length):vl B ((l.set p v).take q)=vl B (l.take q)+(v-rd l (p:Int))*B ^ p:=by
 have h1:=gV B ((l.set p v).take q) (p+1) (by simp;omega)
 have h2:=gV B (l.take q) (p+1) (by simp;omega)
 have e1:((l.set p v).take q).take (p+1)=(l.set p v).take (p+1):=by rw [List.take_take,Nat.min_eq_left Q2]
 have e2:(l.take q).take (p+1)=l.take (p+1):=by rw [List.take_take,Nat.min_eq_left Q2]
 have e3:((l.set p v).take q).drop (p+1)=(l.take q).drop (p+1):=by
  rw [List.drop_take,List.drop_take,List.drop_set_of_lt Q2]
 rw [e1,e3,gM _ _ _ _ Q2] at h1
 rw [e2,dH _ _ _ Q2] at h2
 rw [h1,h2]
 grind
theorem LL {T va vb x y qK P c c' v W xb Pi Pj:Int} (h:T+c*P=va*vb+x*Pi*xb) (h2:v+W*c'=c+(x*y+qK)) (hP:P=Pi*Pj):(T+(v-qK)*P)+c'*(W*P)=va*vb+x*Pi*(xb+y*Pj):=by grind
theorem vY {x y:Int} (hx:0<=x/\x<4294967296) (hy:0<=y/\y<4294967296):0<=x*y/\x*y<=18446744065119617025:=by
 have h1:0<=x*y:=Int.mul_nonneg hx.1 hy.1
 have h2:x*y<=4294967295*4294967295:=Int.mul_le_mul Q2 Q2 hy.1 Q2
 omega
theorem mulc {x y qK c:Int} (hx:0<=x/\x<4294967296) (hy:0<=y/\y<4294967296) (ho:0<=qK/\qK<4294967296) (hc:0<=c/\c<4294967296) :
 ∃ v c',IntKind.u64.wrap (c+IntKind.u64.wrap (IntKind.u64.wrap (IntKind.u64.wrap x*IntKind.u64.wrap y)+IntKind.u64.wrap qK)) % 4294967296=v/\IntKind.u64.wrap (c+IntKind.u64.wrap (IntKind.u64.wrap (IntKind.u64.wrap x*IntKind.u64.wrap y)+IntKind.u64.wrap qK)) / 4294967296=c'/\v+4294967296*c'=c+(x*y+qK)/\0<=v/\v<4294967296/\0<=c'/\c'<4294967296:=by
 have hb:=vY hx hy
 rw [u64 (x:=x) Q2 Q2,u64 (x:=y) Q2 Q2,u64 (x:=qK) Q2 Q2,u64 (x:=x*y) Q2 Q2,u64 (x:=x*y+qK) Q2 Q2,u64 (x:=c+(x*y+qK)) Q2 Q2]
 refine ⟨_,_,rfl,rfl,?_,?_,?_,?_,?_⟩<;>omega
theorem CZ {T c P va vb x Pi:Int} (h:T+c*P=va*vb+x*Pi*vb):T+c*P=(va+x*Pi)*vb:=by rw [h];grind
theorem Ei {a b:List Int} (hn:a.length+b.length<1099511627776) (ha:Dg WW a) (hb:Dg WW b) (i:Nat) (hi:i<a.length) (R:List Int)
 (hout:∀ o:List Int,o.length=a.length+b.length->Dg WW o->vl WW (o.take (i+1+b.length))=vl WW (a.take (i+1))*vl WW b->Ev (fun k=>bI.l0 k b o a (a.length:Int) ((i+1:Nat):Int)) R) (d:Nat) :
 ∀ (j:Nat) (o:List Int) (c:Int),b.length-j=d->j<=b.length->o.length=a.length+b.length->Dg WW o->0<=c->c<4294967296 ->
 vl WW (o.take (i+b.length))+c*WW ^ (i+j)=vl WW (a.take i)*vl WW b+rd a i*WW ^ i*vl WW (b.take j) ->
 Ev (fun k=>bI.l1 k b o (i:Int) (rd a i) c a (a.length:Int) (i:Int) b (b.length:Int) (j:Int)) R:=by
 induction d with
 | zero =>
  intro j o c h1 h2 h3 h4 h5 h6 h7
  have e:j=b.length:=Q2
  subst e
  rw [List.take_length] at h7
  have ei:((i:Int)+(b.length:Int))=((i+b.length:Nat):Int):=Q2
  refine Ev.step (fun k=>by rw [bI.l1]) ?_
  rw [ei,cy (x:=((i+b.length:Nat):Int)) Q2 Q2,Int.toNat_natCast,fM (i:=i) Q2,Int.emod_eq_of_lt h5 h6]
  refine eD Q2 (bC Q2 (bC Q2 ?_))
  refine hout _ (by simpa using h3) (h4.set _ h5 (by rw [cS];exact h6)) ?_
  rw [show i+1+b.length=i+b.length+1 by omega,gM _ _ _ _ Q2,dH WW a i hi]
  exact CZ h7
 | succ d ih =>
  intro j o c h1 h2 h3 h4 h5 h6 h7
  have hx:=dO ha (i:Int) Q2 Q2
  have hy:=dO hb (j:Int) Q2 Q2
  have ho:=dO h4 ((i+j:Nat):Int) Q2 Q2
  rw [cS] at hx hy ho
  obtain ⟨v,c',e1,e2,e3,v0,v1,c0,c1⟩:=mulc hx hy ho ⟨h5,h6⟩
  have h8:=ih (j+1) (o.set (i+j) v) c' Q2 Q2 (by simpa using h3) (h4.set _ v0 (by rw [cS];exact v1)) c0 c1
   (by
    rw [vd _ _ _ _ _ Q2 Q2,dH WW b j Q2,show i+(j+1)=i+j+1 by omega,Int.pow_succ,Int.mul_comm (WW ^ (i+j)) WW]
    exact LL h7 e3 (Int.pow_add _ _ _))
  have ei:((i:Int)+(j:Int))=((i+j:Nat):Int):=Q2
  refine Ev.step (fun k=>by rw [bI.l1]) ?_
  rw [ei,cy (x:=((i+j:Nat):Int)) Q2 Q2,e1,e2,fM Q2,Int.toNat_natCast]
  exact bC Q2 (bC Q2 (bC Q2 (bC Q2 (bC Q2 h8))))
theorem zD {n m A C:Int} (h1:n<A) (h2:m<C) (h3:0<=n) (h4:0<=m):n*m<A*C:=by
 have h5:n*m<=n*C:=Int.mul_le_mul_of_nonneg_left Q2 h3
 have h6:n*C<A*C:=Int.mul_lt_mul_of_pos_right h1 Q2
 omega
theorem B8 {a b:List Int} (hn:a.length+b.length<1099511627776) (ha:Dg WW a) (hb:Dg WW b):∃ R,Can WW R (vl WW a*vl WW b)/\R.length<=a.length+b.length/\∀ (d i:Nat) (o:List Int),a.length-i=d->i<=a.length->o.length=a.length+b.length->Dg WW o->vl WW (o.take (i+b.length))=vl WW (a.take i)*vl WW b ->
 Ev (fun k=>bI.l0 k b o a (a.length:Int) (i:Int)) R:=by
 have f:∀ o:List Int,o.length=a.length+b.length->Dg WW o->vl WW (o.take (a.length+b.length))=vl WW (a.take a.length)*vl WW b->∃ r,Ev (fun k=>bI.l0 k b o a (a.length:Int) (a.length:Int)) r/\Can WW r (vl WW a*vl WW b)/\r.length<=a.length+b.length:=by
  intro o h1 h2 h3
  obtain ⟨r,h8,h9,h⟩:=fH (l:=o) Q2 h2
  rw [<- h1,List.take_length,List.take_length] at h3
  refine ⟨r,?_,by rw [<- h3];exact h9,Q2⟩
  refine Ev.step (fun k=>by rw [bI.l0]) ?_
  exact eD Q2 (Ev.bind h8 (aX _))
 have hv:∃ R,Can WW R (vl WW a*vl WW b)/\R.length<=a.length+b.length:=by
  have c:0<=vl WW a*vl WW b:=Int.mul_nonneg (bN aH ha) (bN aH hb)
  obtain ⟨R,hR⟩:=JQ bw c
  refine ⟨R,hR,?_⟩
  refine hR.gx bw ?_
  rw [Int.pow_add]
  have h1:=fW aH ha
  have h2:=fW aH hb
  have h3:=bN aH ha
  have h4:=bN aH hb
  exact zD h1 h2 h3 h4
 obtain ⟨R,hR,g⟩:=hv
 refine ⟨R,hR,g,?_⟩
 intro d
 induction d with
 | zero =>
  intro i o h1 h2 h3 h4 h5
  have e:i=a.length:=Q2
  subst e
  obtain ⟨r,h6,h7,_⟩:=f o h3 h4 h5
  rw [bu aH hR h7]
  exact h6
 | succ d ih =>
  intro i o h1 h2 h3 h4 h5
  have h6:=Ei hn ha hb i Q2 R (fun o' q1 q2 q3=>ih (i+1) o' Q2 Q2 q1 q2 (by rw [q3])) b.length 0 o 0 Q2 Q2 h3 h4 Q2 Q2 (by rw [h5];simp [vl])
  refine Ev.step (fun k=>by rw [bI.l0]) ?_
  exact bC Q2 (bC Q2 (bC Q2 h6))
theorem kF {a b:List Int} {n m:Int} (hn:a.length+b.length<1099511627776) (ha:Can WW a n) (hb:Can WW b m):∃ r,Ev (fun k=>bI.f k a b) r/\Can WW r (n*m)/\r.length<=a.length+b.length:=by
 by_cases ha0:a.length=0
 ·have e:a=[]:=List.eq_nil_of_length_eq_zero ha0
  subst e
  have:n=0:=by rw [<- ha.2.2];rfl
  subst this
  refine ⟨[],?_,by rw [Int.zero_mul];exact Can.zero _,Nat.zero_le _⟩
  unfold bI.f
  refine bC Q3 ?_
  refine Ev.step (fun k=>by rw [bI.j0]) ?_
  exact bC rfl (aX _)
 by_cases hb0:b.length=0
 ·have e:b=[]:=List.eq_nil_of_length_eq_zero hb0
  subst e
  have:m=0:=by rw [<- hb.2.2];rfl
  subst this
  refine ⟨[],?_,by rw [Int.mul_zero];exact Can.zero _,Nat.zero_le _⟩
  unfold bI.f
  refine eD Q2 ?_
  refine Ev.step (fun k=>by rw [bI.j0]) ?_
  exact bC rfl (aX _)
 obtain ⟨R,h1,h2,h3⟩:=B8 hn ha.1 hb.1
 rw [ha.2.2,hb.2.2] at h1
 refine ⟨R,?_,h1,h2⟩
 have h4:=h3 a.length 0 (List.replicate (a.length+b.length) 0) Q2 Q2 Q3 (Dg.rep aH _) (by rw [List.take_replicate];simp [vl,yI])
 unfold bI.f
 refine eD Q2 ?_
 refine Ev.step (fun k=>by rw [bI.j0]) ?_
 have e:(a.length:Int)+(b.length:Int)=((a.length+b.length:Nat):Int):=Q2
 rw [e,cy Q2 Q2,Int.toNat_natCast]
 refine eD ?_ (bC Q2 (bC Q2 h4))
 simp only [beq_iff_eq]
 omega
abbrev RR:Int:=10000
theorem aW:(0:Int)<RR:=by decide
theorem cD:(1:Int)<RR:=by decide
theorem ef:RR=10000:=rfl
theorem GI {l:List Int} (hn:l.length<4611686018427387904) (hd:Dg RR l) (d:Nat):∀ i:Nat,i=d->i<=l.length->∃ r,Ev (fun k=>aS.l0 k l (i:Int)) r/\Can RR r (vl RR (l.take i))/\r.length<=i:=by
 induction d with
 | zero =>
  rintro i rfl h
  refine ⟨[],?_,Can.zero _,Nat.le_refl _⟩
  refine Ev.step (fun k=>by rw [aS.l0]) ?_
  exact eD Q2 (bC Q2 (bC Q2 (aX _)))
 | succ d ih =>
  rintro i rfl h
  have hw:((d+1:Nat):Int)-1=(d:Int):=Q2
  by_cases hz:rd l d=0
  ·obtain ⟨r,h1,h2,h3⟩:=ih d rfl Q2
   refine ⟨r,?_,?_,Q2⟩
   ·refine Ev.step (fun k=>by rw [aS.l0]) ?_
    rw [hw,cy (x:=(d:Int)) Q2 Q2]
    exact bC Q2 (bC Q2 (bC Q2 (bC hz h1)))
   rw [dH RR l d Q2,hz,Int.zero_mul,Int.add_zero]
   exact h2
  refine ⟨l.take (d+1),?_,⟨hd.take _,oU (fun _=>?_),rfl⟩,by rw [List.length_take];omega⟩
  ·refine Ev.step (fun k=>by rw [aS.l0]) ?_
   rw [hw,cy (x:=(d:Int)) Q2 Q2,Int.toNat_natCast]
   exact bC Q2 (bC Q2 (bC Q2 (eD hz (bC Q2 (bC Q2 (aX _))))))
  rw [List.length_take,Nat.min_eq_left Q2,hw,KI _ _ _ Q2]
  exact hz
theorem lY {l:List Int} (hn:l.length<4611686018427387904) (hd:Dg RR l):∃ r,Ev (fun k=>aS.f k l) r/\Can RR r (vl RR l)/\r.length<=l.length:=by
 obtain ⟨r,h1,h2⟩:=GI hn hd l.length l.length rfl (Nat.le_refl _)
 rw [List.take_length] at h2
 exact ⟨r,Ev.congr (fun k=>by rw [aS.f]) h1,h2⟩
theorem nZ {a b:List Int} (hl:a.length=b.length) (hn:a.length<4611686018427387904) (ha:Dg RR a) (hb:Dg RR b) (d:Nat) :
 ∀ (i:Nat),i=d->i<=a.length->vl RR (a.drop i)=vl RR (b.drop i)->∃ r,Ev (fun k=>aJ.l0 k a b ((i:Int)-1)) r/\(r = -1/\vl RR a<vl RR b∨r=0/\vl RR a=vl RR b∨r=1/\vl RR b<vl RR a):=by
 induction d with
 | zero =>
  rintro i rfl h1 h2
  refine ⟨0,?_,.inr (.inl ⟨rfl,by simpa using h2⟩)⟩
  refine Ev.step (fun k=>by rw [aJ.l0]) ?_
  exact eD Q2 (aX _)
 | succ d ih =>
  rintro i rfl h1 h2
  have e1:(((d+1:Nat):Int)-1)=(d:Int):=Q2
  rw [e1]
  have h3:=gV RR a d Q2
  have h4:=gV RR b d Q2
  have ea:a.drop d=rd a d :: a.drop (d+1):=by rw [kC a d Q2];exact (List.drop_eq_getElem_cons Q2)
  have eb:b.drop d=rd b d :: b.drop (d+1):=by rw [kC b d Q2];exact (List.drop_eq_getElem_cons Q2)
  have ta:=fW aW (ha.take d)
  have tb:=fW aW (hb.take d)
  have e:=bN aW (ha.take d)
  have c:=bN aW (hb.take d)
  rw [List.length_take,Nat.min_eq_left Q2] at ta tb
  by_cases he:rd a d=rd b d
  ·obtain ⟨r,h5,h6⟩:=ih d rfl Q2 (by rw [ea,eb,vl,vl,he,h2])
   refine ⟨r,?_,h6⟩
   refine Ev.step (fun k=>by rw [aJ.l0]) ?_
   rw [cy Q2 Q2]
   exact bC Q2 (bC Q2 (bC Q2 (bC Q2 (bC he h5))))
  have h7:vl RR (a.drop d)=rd a d+RR*vl RR (a.drop (d+1)):=by rw [ea,vl]
  have h8:vl RR (b.drop d)=rd b d+RR*vl RR (b.drop (d+1)):=by rw [eb,vl]
  have hp:0<RR ^ d:=Int.pow_pos aW
  by_cases hlt:rd a d<rd b d
  ·refine ⟨-1,?_,.inl ⟨rfl,?_⟩⟩
   ·refine Ev.step (fun k=>by rw [aJ.l0]) ?_
    exact bC Q2 (bC Q2 (bC Q2 (bC Q2 (eD he (bC hlt (aX _))))))
   have h9:RR ^ d*(vl RR (a.drop d)+1)<=RR ^ d*vl RR (b.drop d):=Int.mul_le_mul_of_nonneg_left (by rw [h7,h8,h2];omega) Q2
   rw [Int.mul_add] at h9
   omega
  refine ⟨1,?_,.inr (.inr ⟨rfl,?_⟩)⟩
  ·refine Ev.step (fun k=>by rw [aJ.l0]) ?_
   exact bC Q2 (bC Q2 (bC Q2 (bC Q2 (eD he (eD hlt (aX _))))))
  have h9:RR ^ d*(vl RR (b.drop d)+1)<=RR ^ d*vl RR (a.drop d):=Int.mul_le_mul_of_nonneg_left (by rw [h7,h8,h2];omega) Q2
  rw [Int.mul_add] at h9
  omega
theorem eh {a b:List Int} {n m:Int} (hn:a.length<4611686018427387904) (ha:Can RR a n) (hb:Can RR b m):Ev (fun k=>aJ.f k a b) (dD n m):=by
 unfold aJ.f
 by_cases hl:a.length=b.length
 ·obtain ⟨r,h1,h2⟩:=nZ hl hn ha.1 hb.1 a.length a.length rfl (Nat.le_refl _) (by rw [List.drop_length,hl,List.drop_length])
  have e:r=dD n m:=by
   rw [ha.2.2,hb.2.2] at h2
   unfold dD
   rcases h2 with ⟨rfl,h⟩ | ⟨rfl,h⟩ | ⟨rfl,h⟩
   ·rw [if_pos h]
   ·rw [if_neg Q2,if_pos h]
   rw [if_neg Q2,if_neg Q2]
  rw [<- e]
  refine bC Q2 ?_
  rw [cy Q2 Q2]
  exact h1
 refine eD Q2 ?_
 unfold dD
 by_cases h:a.length<b.length
 ·have:=Can.tC cD ha hb h
  rw [if_pos this]
  exact bC Q2 (aX _)
 have:=Can.tC cD hb ha Q2
 rw [if_neg (show ¬ n<m by omega),if_neg (show ¬ n=m by omega)]
 exact eD Q2 (aX _)
theorem fG {x:Int} (h:0<=x) (m:Int):Int.tmod x m=x % m:=Int.tmod_eq_emod_of_nonneg h
theorem fB {x:Int} (h:0<=x) (m:Int):Int.tdiv x m=x / m:=Int.tdiv_eq_ediv_of_nonneg h
theorem mJ (B:Int) (l:List Int) (x:Int):vl B (l++[x])=vl B l+x*B ^ l.length:=by
 rw [iS]
 simp only [vl]
 grind
theorem JZ {vo c P n v c' R:Int} (h:vo+c*P=n) (h2:v+R*c'=c):vo+v*P+c'*(R*P)=n:=by grind
theorem LI {vo c P va x k v c' R c0:Int} (h:vo+c*P=c0+k*va) (h2:v+R*c'=c+x*k):vo+v*P+c'*(R*P)=c0+k*(va+x*P):=by grind
theorem DN (o0:List Int) (n:Int) (c:Nat):∀ (o:List Int) (cc:Int),cc=(c:Int)->cc<4611686018427387904->o.length+c<1099511627776->Dg RR o->vl RR o+cc*RR ^ o.length=n->∃ r,Ev (fun k=>aw.l1 k cc o) r/\Can RR r n:=by
 induction c using Nat.strongRecOn with
 | _ c ih =>
  intro o cc hcc hlt hl hd hv
  by_cases h0:c=0
  ·subst h0
   have e:cc=0:=Q2
   subst e
   rw [Int.zero_mul,Int.add_zero] at hv
   obtain ⟨r,h1,h2,_⟩:=lY (l:=o) Q2 hd
   refine ⟨r,?_,by rw [<- hv];exact h2⟩
   refine Ev.step (fun k=>by rw [aw.l1]) ?_
   exact eD Q2 (Ev.bind h1 (aX _))
  obtain ⟨r,h1,h2⟩:=ih (c / 10000) Q2 (o++[cc % 10000]) (cc / 10000) Q2 Q2 (by simp;omega) (hd.append (Dg.mk Q2 (by rw [ef];omega) (Dg.nil _)))
   (by rw [mJ,List.length_append,List.length_singleton,Int.pow_succ,Int.mul_comm (RR ^ o.length) RR];exact JZ hv (by rw [ef];omega))
  refine ⟨r,?_,h2⟩
  refine Ev.step (fun k=>by rw [aw.l1]) ?_
  rw [fG (x:=cc) Q2,fB (x:=cc) Q2,cy (x:=cc / 10000) Q2 Q2]
  exact bC Q2 (bC Q2 h1)
theorem DM {a:List Int} (hn:a.length<549755813888) (ha:Dg RR a) {k0 c0:Int} (hk:0<=k0/\k0<=65536) (d:Nat) :
 ∀ (i:Nat) (o:List Int) (c:Int),a.length-i=d->i<=a.length->o.length=i->Dg RR o->0<=c->c<=65536->vl RR o+c*RR ^ i=c0+k0*vl RR (a.take i) ->
 ∃ r,Ev (fun k=>aw.l0 k k0 c o a (a.length:Int) (i:Int)) r/\Can RR r (c0+k0*vl RR a):=by
 induction d with
 | zero =>
  intro i o c h1 h2 h3 h4 h5 h6 h7
  have e:i=a.length:=Q2
  subst e
  rw [List.take_length] at h7
  obtain ⟨r,h8,h9⟩:=DN o (c0+k0*vl RR a) c.toNat o c Q2 Q2 Q2 h4 (by rw [h3];exact h7)
  refine ⟨r,?_,h9⟩
  refine Ev.step (fun k=>by rw [aw.l0]) ?_
  exact eD Q2 h8
 | succ d ih =>
  intro i o c h1 h2 h3 h4 h5 h6 h7
  have hx:=dO ha (i:Int) Q2 Q2
  rw [ef] at hx
  have hm:0<=rd a i*k0:=Int.mul_nonneg hx.1 hk.1
  have b:rd a i*k0<=9999*65536:=Int.mul_le_mul Q2 hk.2 hk.1 Q2
  obtain ⟨r,h8,h9⟩:=ih (i+1) (o++[(c+rd a i*k0) % 10000]) ((c+rd a i*k0) / 10000) Q2 Q2 (by simp;omega) (h4.append (Dg.mk Q2 (by rw [ef];omega) (Dg.nil _))) Q2 Q2
   (by rw [mJ,h3,dH RR a i Q2,Int.pow_succ,Int.mul_comm (RR ^ i) RR];exact LI h7 (by rw [ef];omega))
  refine ⟨r,?_,h9⟩
  refine Ev.step (fun k=>by rw [aw.l0]) ?_
  rw [cy (x:=rd a i*k0) Q2 Q2,cy (x:=c+rd a i*k0) Q2 Q2,fG (x:=c+rd a i*k0) Q2,fB (x:=c+rd a i*k0) Q2,cy (x:=(c+rd a i*k0) / 10000) Q2 Q2,fM (i:=i) Q2]
  exact bC Q2 (bC Q2 (bC Q2 (bC Q2 h8)))
theorem jz {a:List Int} {n k0 c0:Int} (hn:a.length<549755813888) (ha:Can RR a n) (hk:0<=k0/\k0<=65536) (hc:0<=c0/\c0<=65536):∃ r,Ev (fun k=>aw.f k a k0 c0) r/\Can RR r (n*k0+c0)/\r.length<=a.length+2:=by
 obtain ⟨r,h1,h2⟩:=DM hn ha.1 hk (c0:=c0) a.length 0 [] c0 Q2 Q2 rfl (Dg.nil _) hc.1 hc.2 (by simp [vl])
 rw [ha.2.2,Int.add_comm,Int.mul_comm] at h2
 refine ⟨r,?_,h2,?_⟩
 ·unfold aw.f
  have e:(a.length:Int)+2=((a.length+2:Nat):Int):=Q2
  rw [e,cy Q2 Q2,Int.toNat_natCast]
  exact bC Q2 (bC Q2 h1)
 refine h2.gx cD ?_
 have h3:=ha.lt aW
 have h4:=ha.fT aW
 have h5:n*k0<=n*65536:=Int.mul_le_mul_of_nonneg_left hk.2 h4
 have h6:RR ^ (a.length+2)=RR ^ a.length*100000000:=by rw [Int.pow_add];rfl
 rw [h6]
 omega
theorem Bu (n:Int) (c:Nat):∀ (o:List Int) (cc:Int),cc=(c:Int)->cc<4611686018427387904->o.length+c<17592186044416->Dg RR o->(c=0->Nm o)->vl RR o+cc*RR ^ o.length=n->∃ r,Ev (fun k=>aR.l0 k cc o) r/\Can RR r n:=by
 induction c using Nat.strongRecOn with
 | _ c ih =>
  intro o cc hcc hlt hl hd hnm hv
  by_cases h0:c=0
  ·subst h0
   have e:cc=0:=Q2
   subst e
   rw [Int.zero_mul,Int.add_zero] at hv
   refine ⟨o,?_,hd,hnm rfl,hv⟩
   refine Ev.step (fun k=>by rw [aR.l0]) ?_
   exact eD Q2 (aX _)
  obtain ⟨r,h1,h2⟩:=ih (c / 10000) Q2 (o++[cc % 10000]) (cc / 10000) Q2 Q2 (by simp;omega) (hd.append (Dg.mk Q2 (by rw [ef];omega) (Dg.nil _)))
   (by
    intro hz hne
    simp only [List.getLast_append,List.getLast_singleton]
    simp
    omega)
   (by rw [mJ,List.length_append,List.length_singleton,Int.pow_succ,Int.mul_comm (RR ^ o.length) RR];exact JZ hv (by rw [ef];omega))
  refine ⟨r,?_,h2⟩
  refine Ev.step (fun k=>by rw [aR.l0]) ?_
  rw [fG (x:=cc) Q2,fB (x:=cc) Q2,cy (x:=cc / 10000) Q2 Q2]
  exact bC Q2 (bC Q2 h1)
theorem IC {a:Int} (h0:0<=a) (h1:a<10000000000000):∃ r,Ev (fun k=>aR.f k a) r/\Can RR r a:=by
 obtain ⟨r,h2,h3⟩:=Bu a a.toNat [] a Q2 Q2 (by simp;omega) (Dg.nil _) (fun _=>Nm.nil) (by simp [vl])
 exact ⟨r,Ev.congr (fun k=>by rw [aR.f]) h2,h3⟩
theorem and16 {x:Int} (h0:0<=x) (h1:x<4294967296):Go.bits .and .u32 x 65535=x % 65536 :=
 bits_mask .u32 32 (by decide) (fun n h0 h1=>by rw [IntKind.wrap_u32];omega) 16 (by decide) x h0 h1
theorem BV {B:Int} {l:List Int} (hB:0<B) (hd:Dg B l) (h:B ^ (l.length-1)<=vl B l):Nm l:=by
 refine oU (fun hp hz=>?_)
 have e:(l.length:Int)-1=((l.length-1:Nat):Int):=Q2
 rw [e] at hz
 have h1:=dH B l (l.length-1) Q2
 rw [hz,show l.length-1+1=l.length by omega,List.take_length] at h1
 have h2:=fW hB (hd.take (l.length-1))
 rw [List.length_take,Nat.min_eq_left Q2] at h2
 omega
theorem J2 {vo va vb P c c' v x y R:Int} (h:vo+c*P=va+vb) (h2:v+R*c'=c+x+y):(vo+v*P)+c'*(R*P)=(va+x*P)+(vb+y*P):=by grind
theorem fF (l:List Int) (i:Nat) (h:l.length<=i):l.take i=l:=List.take_of_length_le h
theorem IG {a b:List Int} {n m:Int} (hn:a.length+b.length<68719476736) (ha:Can RR a n) (hb:Can RR b m) (d:Nat) :
 ∀ (i:Nat) (o:List Int) (c:Int),max a.length b.length+1-i=d->i<=max a.length b.length+1->o.length=i->Dg RR o->0<=c->c<=1->(max a.length b.length<i->c=0/\RR ^ (max a.length b.length)<=n+m) ->
 vl RR o+c*RR ^ i=vl RR (a.take i)+vl RR (b.take i)->∃ r,Ev (fun k=>az.l0 k a b o c (i:Int)) r/\Can RR r (n+m)/\r.length<=max a.length b.length+1:=by
 induction d with
 | zero =>
  intro i o c h1 h2 h3 h4 h5 h6 h7 h8
  obtain ⟨hc,e⟩:=h7 Q2
  subst hc
  rw [fF a i Q2,fF b i Q2,ha.2.2,hb.2.2,Int.zero_mul,Int.add_zero] at h8
  refine ⟨o,?_,⟨h4,BV aW h4 ?_,h8⟩,Q2⟩
  ·refine Ev.step (fun k=>by rw [az.l0]) ?_
   refine eD Q2 (eD Q2 ?_)
   refine Ev.step (fun k=>by rw [az.j1]) ?_
   exact eD Q3 (aX _)
  rw [h8,h3,show i-1=max a.length b.length by omega]
  exact e
 | succ d ih =>
  intro i o c h1 h2 h3 h4 h5 h6 h7 h8
  have step:∀ (x y:Int),0<=x/\x<10000->0<=y/\y<10000->vl RR (a.take (i+1))=vl RR (a.take i)+x*RR ^ i->vl RR (b.take (i+1))=vl RR (b.take i)+y*RR ^ i->(max a.length b.length<i+1->(c+x+y) / 10000=0/\RR ^ (max a.length b.length)<=n+m) ->
   ∃ r,Ev (fun k=>az.l0 k a b (o++[(c+x+y) % 10000]) ((c+x+y) / 10000) ((i+1:Nat):Int)) r/\Can RR r (n+m)/\r.length<=max a.length b.length+1:=by
   intro x y hx hy ta tb hg
   refine ih (i+1) _ _ Q2 Q2 (by simp;omega) (h4.append (Dg.mk Q2 (by rw [ef];omega) (Dg.nil _))) Q2 Q2 hg ?_
   rw [mJ,h3,ta,tb,Int.pow_succ,Int.mul_comm (RR ^ i) RR]
   exact J2 h8 (by rw [ef];omega)
  by_cases hia:i<a.length
  ·have hx:=dO ha.1 (i:Int) Q2 Q2
   rw [ef] at hx
   by_cases hib:i<b.length
   ·have hy:=dO hb.1 (i:Int) Q2 Q2
    rw [ef] at hy
    obtain ⟨r,q1,q2⟩:=step _ _ hx hy (dH RR a i hia) (dH RR b i hib) (fun h=>Q2)
    refine ⟨r,?_,q2⟩
    refine Ev.step (fun k=>by rw [az.l0]) ?_
    refine bC Q2 ?_
    refine Ev.step (fun k=>by rw [az.j1]) ?_
    rw [cy (x:=c+rd a i) Q2 Q2,cy (x:=c+rd a i+rd b i) Q2 Q2,fG (x:=c+rd a i+rd b i) Q2,fB (x:=c+rd a i+rd b i) Q2,cy (x:=(c+rd a i+rd b i) / 10000) Q2 Q2,fM (i:=i) Q2]
    exact bC rfl (bC Q2 (bC Q2 (bC Q2 (bC Q2 q1))))
   obtain ⟨r,q1,q2⟩:=step _ 0 hx Q2 (dH RR a i hia) (by rw [fF b i Q2,fF b (i+1) Q2];omega) (fun h=>Q2)
   rw [Int.add_zero] at q1
   refine ⟨r,?_,q2⟩
   refine Ev.step (fun k=>by rw [az.l0]) ?_
   refine bC Q2 ?_
   refine Ev.step (fun k=>by rw [az.j1]) ?_
   rw [cy (x:=c+rd a i) Q2 Q2,fG (x:=c+rd a i) Q2,fB (x:=c+rd a i) Q2,cy (x:=(c+rd a i) / 10000) Q2 Q2,fM (i:=i) Q2]
   exact bC rfl (bC Q2 (bC Q2 (eD Q2 (bC Q2 q1))))
  by_cases hib:i<b.length
  ·have hy:=dO hb.1 (i:Int) Q2 Q2
   rw [ef] at hy
   obtain ⟨r,q1,q2⟩:=step 0 _ Q2 hy (by rw [fF a i Q2,fF a (i+1) Q2];omega) (dH RR b i hib) (fun h=>Q2)
   rw [Int.add_zero] at q1
   refine ⟨r,?_,q2⟩
   refine Ev.step (fun k=>by rw [az.l0]) ?_
   refine eD Q2 (bC Q2 ?_)
   refine Ev.step (fun k=>by rw [az.j1]) ?_
   rw [cy (x:=c+rd b i) Q2 Q2,fG (x:=c+rd b i) Q2,fB (x:=c+rd b i) Q2,cy (x:=(c+rd b i) / 10000) Q2 Q2,fM (i:=i) Q2]
   exact bC rfl (eD Q2 (bC Q2 (bC Q2 (bC Q2 q1))))
  rw [fF a i Q2,fF b i Q2,ha.2.2,hb.2.2] at h8
  by_cases hc:c=0
  ·subst hc
   rw [Int.zero_mul,Int.add_zero] at h8
   refine ⟨o,?_,⟨h4,?_,h8⟩,Q2⟩
   ·refine Ev.step (fun k=>by rw [az.l0]) ?_
    refine eD Q2 (eD Q2 ?_)
    refine Ev.step (fun k=>by rw [az.j1]) ?_
    exact eD Q3 (aX _)
   by_cases hi0:i=0
   ·have:o=[]:=List.eq_nil_of_length_eq_zero Q2
    rw [this]
    exact Nm.nil
   refine BV aW h4 ?_
   rw [h8,h3]
   have g:=ha.fT aW
   have p:=hb.fT aW
   by_cases e:b.length<=a.length
   ·have:=ha.ge aW Q2
    have h9:=fj (B:=RR) (by have:=cD;omega) (show i-1<=a.length-1 by omega)
    omega
   have:=hb.ge aW Q2
   have h9:=fj (B:=RR) (by have:=cD;omega) (show i-1<=b.length-1 by omega)
   omega
  have f:c=1:=Q2
  subst f
  have l:i<=max a.length b.length:=by
   rcases Nat.lt_or_ge (max a.length b.length) i with h | h
   ·have:=(h7 h).1
    omega
   exact h
  have j:=bN aW h4
  obtain ⟨r,q1,q2⟩:=step 0 0 Q2 Q2 (by rw [fF a i Q2,fF a (i+1) Q2];omega) (by rw [fF b i Q2,fF b (i+1) Q2];omega)
   (fun h=>⟨Q2,by rw [show max a.length b.length=i by omega];omega⟩)
  refine ⟨r,?_,q2⟩
  refine Ev.step (fun k=>by rw [az.l0]) ?_
  refine eD Q2 (eD Q2 ?_)
  refine Ev.step (fun k=>by rw [az.j1]) ?_
  rw [fM (i:=i) Q2,show Int.tmod 1 10000=(1+0+0) % 10000 by decide,show wrap64 (Int.tdiv 1 10000)=(1+0+0) / 10000 by decide +kernel]
  exact bC Q3 (eD Q2 (eD Q2 (bC Q2 q1)))
theorem IE {a b:List Int} {n m:Int} (hn:a.length+b.length<68719476736) (ha:Can RR a n) (hb:Can RR b m):∃ r,Ev (fun k=>az.f k a b) r/\Can RR r (n+m)/\r.length<=max a.length b.length+1:=by
 obtain ⟨r,h1,h2⟩:=IG hn ha hb (max a.length b.length+1) 0 [] 0 Q2 Q2 rfl (Dg.nil _) Q2 Q2 (fun h=>Q2) (by simp [vl])
 exact ⟨r,Ev.congr (fun k=>by rw [az.f];rfl) h1,h2⟩
theorem gU (l:List Int) (i:Nat) (v:Int):(l.set i v).drop (i+1)=l.drop (i+1):=by rw [List.drop_set_of_lt Q2]
theorem kB (a o:List Int) (i:Nat) (h:o.drop i=a.drop i) (hi:i<a.length) (hl:o.length=a.length):rd o i=rd a i:=by
 rw [kC o i Q2,kC a i hi]
 have h1:(o.drop i)[0]?=(a.drop i)[0]?:=by rw [h]
 rw [List.getElem?_drop,List.getElem?_drop,Nat.add_zero,List.getElem?_eq_getElem Q2,List.getElem?_eq_getElem hi] at h1
 exact Option.some.inj h1
theorem drop_tail (a o:List Int) (i:Nat) (h:o.drop i=a.drop i):o.drop (i+1)=a.drop (i+1):=by
 rw [<- List.drop_drop,<- List.drop_drop,h]
theorem Iz {a b:List Int} (hba:b.length<=a.length) (hle:vl RR b<=vl RR a) (hn:a.length<68719476736) (ha:Dg RR a) (hb:Dg RR b) (d:Nat) :
 ∀ (i:Nat) (o:List Int) (c:Int),a.length-i=d->i<=a.length->o.length=a.length->o.drop i=a.drop i->Dg RR (o.take i)->0<=c->c<=1->vl RR (o.take i)-c*RR ^ i=vl RR (a.take i)-vl RR (b.take i) ->
 ∃ r,Ev (fun k=>aN.l0 k b o c (a.length:Int) (i:Int)) r/\Can RR r (vl RR a-vl RR b)/\r.length<=a.length:=by
 induction d with
 | zero =>
  intro i o c h1 h2 h3 hdr h4 h5 h6 h7
  have e:i=a.length:=Q2
  subst e
  rw [List.take_length,List.take_of_length_le hba,<- h3,List.take_length] at h7
  rw [<- h3,List.take_length] at h4
  have j:=fW aW h4
  have hc:c=0:=by
   rcases Int.lt_or_eq_of_le h6 with h | h
   ·omega
   subst h
   rw [Int.one_mul] at h7
   omega
  subst hc
  rw [Int.zero_mul,Int.sub_zero] at h7
  obtain ⟨r,h8,h9,m⟩:=lY (l:=o) Q2 h4
  refine ⟨r,?_,by rw [<- h7];exact h9,Q2⟩
  refine Ev.step (fun k=>by rw [aN.l0]) ?_
  refine eD Q2 ?_
  exact Ev.bind h8 (aX _)
 | succ d ih =>
  intro i o c h1 h2 h3 hdr h4 h5 h6 h7
  have hi:i<a.length:=Q2
  have hx:=dO ha (i:Int) Q2 Q2
  rw [ef] at hx
  have f:=kB a o i hdr hi h3
  have ti:=dH RR a i hi
  have ep:RR ^ (i+1)=RR*RR ^ i:=by rw [Int.pow_succ,Int.mul_comm]
  have g:=drop_tail a o i hdr
  by_cases hib:i<b.length
  ·have hy:=dO hb (i:Int) Q2 Q2
   rw [ef] at hy
   have tb:=dH RR b i hib
   by_cases hneg:rd a i-c-rd b i<0
   ·obtain ⟨r,h8,h9⟩:=ih (i+1) (o.set i (rd a i-c-rd b i+10000)) 1 Q2 Q2 (by simpa using h3) (by rw [gU,g]) (Dg.take_set Q2 h4 Q2 (by rw [ef];omega)) Q2 Q2
     (by rw [gM _ _ _ _ Q2,ti,tb,ep];exact Al h7 (by rw [ef];omega))
    refine ⟨r,?_,h9⟩
    refine Ev.step (fun k=>by rw [aN.l0]) ?_
    rw [f,cy (x:=rd a i-c) Q2 Q2,cy (x:=rd a i-c-rd b i) Q2 Q2,cy (x:=rd a i-c-rd b i+10000) Q2 Q2,fM (i:=i) Q2]
    exact bC Q2 (bC Q2 (bC Q2 (bC Q2 (bC hneg h8))))
   obtain ⟨r,h8,h9⟩:=ih (i+1) (o.set i (rd a i-c-rd b i)) 0 Q2 Q2 (by simpa using h3) (by rw [gU,g]) (Dg.take_set Q2 h4 Q2 (by rw [ef];omega)) Q2 Q2
    (by rw [gM _ _ _ _ Q2,ti,tb,ep];exact Al h7 (by rw [ef];omega))
   refine ⟨r,?_,h9⟩
   refine Ev.step (fun k=>by rw [aN.l0]) ?_
   rw [f,cy (x:=rd a i-c) Q2 Q2,cy (x:=rd a i-c-rd b i) Q2 Q2,fM (i:=i) Q2]
   exact bC Q2 (bC Q2 (bC Q2 (bC Q2 (eD hneg h8))))
  have tb:vl RR (b.take (i+1))=vl RR (b.take i):=by rw [List.take_of_length_le Q2,List.take_of_length_le Q2]
  by_cases hneg:rd a i-c<0
  ·obtain ⟨r,h8,h9⟩:=ih (i+1) (o.set i (rd a i-c+10000)) 1 Q2 Q2 (by simpa using h3) (by rw [gU,g]) (Dg.take_set Q2 h4 Q2 (by rw [ef];omega)) Q2 Q2
    (by rw [gM _ _ _ _ Q2,ti,tb,ep];exact xc h7 (by rw [ef];omega))
   refine ⟨r,?_,h9⟩
   refine Ev.step (fun k=>by rw [aN.l0]) ?_
   rw [f,cy (x:=rd a i-c) Q2 Q2,cy (x:=rd a i-c+10000) Q2 Q2,fM (i:=i) Q2]
   exact bC Q2 (bC Q2 (bC Q2 (eD Q2 (bC hneg h8))))
  obtain ⟨r,h8,h9⟩:=ih (i+1) (o.set i (rd a i-c)) 0 Q2 Q2 (by simpa using h3) (by rw [gU,g]) (Dg.take_set Q2 h4 Q2 (by rw [ef];omega)) Q2 Q2
   (by rw [gM _ _ _ _ Q2,ti,tb,ep];exact xc h7 (by rw [ef];omega))
  refine ⟨r,?_,h9⟩
  refine Ev.step (fun k=>by rw [aN.l0]) ?_
  rw [f,cy (x:=rd a i-c) Q2 Q2,fM (i:=i) Q2]
  exact bC Q2 (bC Q2 (bC Q2 (eD Q2 (eD hneg h8))))
theorem jZ {a b:List Int} {n m:Int} (ha:Can RR a n) (hb:Can RR b m) (h:m<=n):b.length<=a.length:=by
 rcases Nat.lt_or_ge a.length b.length with hl | hl
 ·have:=Can.tC cD ha hb hl
  omega
 exact hl
theorem DO {l:List Int} (h:l.length<17592186044416):dC.f l=some l:=by
 unfold dC.f
 simp [h]
theorem Bt {a b:List Int} {n m:Int} (hn:a.length<68719476736) (ha:Can RR a n) (hb:Can RR b m) (hle:m<=n):∃ r,Ev (fun k=>aN.f k a b) r/\Can RR r (n-m)/\r.length<=a.length:=by
 have c:=jZ ha hb hle
 rw [<- ha.2.2,<- hb.2.2] at *
 obtain ⟨r,h1,h2⟩:=Iz c hle hn ha.1 hb.1 a.length 0 a 0 Q2 Q2 rfl rfl (by simp;exact Dg.nil _) Q2 Q2 (by simp [vl])
 refine ⟨r,?_,h2⟩
 unfold aN.f
 exact jY (DO Q2) h1
theorem ve (B:Int) (l:List Int) (p:Nat) (v:Int) (h:p<l.length):vl B (l.set p v)=vl B l+(v-rd l (p:Int))*B ^ p:=by
 have h1:=vd B l p l.length v h (Nat.le_refl _)
 rwa [List.take_of_length_le Q3,List.take_length] at h1
theorem Ht {T c P V qK v c' W:Int} (h:T+c*P=V) (h2:v+W*c'=c+qK):(T+(v-qK)*P)+c'*(W*P)=V:=by grind
theorem KL {a b:List Int} {V:Int} (hn:a.length+b.length<68719476736) (hV:V<RR ^ (a.length+b.length)) (s:Int) (R:List Int)
 (hout:∀ o:List Int,o.length=a.length+b.length+1->Dg RR o->vl RR o=V->Ev (fun k=>ax.l0 k b o a (a.length:Int) (wrap64 (s+1))) R) (d:Nat) :
 ∀ (p:Nat) (o:List Int) (c:Int),a.length+b.length+1-p=d->p<=a.length+b.length+1->o.length=a.length+b.length+1->Dg RR o->0<=c->c<10000->vl RR o+c*RR ^ p=V ->
 Ev (fun k=>ax.l2 k b o c (p:Int) a (a.length:Int) s) R:=by
 induction d with
 | zero =>
  intro p o c h1 h2 h3 h4 h5 h6 h7
  have e:=bN aW h4
  have hc:c=0:=by
   rcases Int.lt_or_eq_of_le h5 with h | h
   ·have h8:=fj (B:=RR) (by have:=cD;omega) (show a.length+b.length<=p by omega)
    have h9:1*RR ^ p<=c*RR ^ p:=Int.mul_le_mul_of_nonneg_right Q2 (Int.le_of_lt (Int.pow_pos aW))
    omega
   omega
  subst hc
  rw [Int.zero_mul,Int.add_zero] at h7
  refine Ev.step (fun k=>by rw [ax.l2]) ?_
  exact eD Q2 (hout o h3 h4 h7)
 | succ d ih =>
  intro p o c h1 h2 h3 h4 h5 h6 h7
  by_cases hc:c=0
  ·subst hc
   rw [Int.zero_mul,Int.add_zero] at h7
   refine Ev.step (fun k=>by rw [ax.l2]) ?_
   exact eD Q2 (hout o h3 h4 h7)
  have ho:=dO h4 (p:Int) Q2 Q2
  rw [ef] at ho
  have h8:=ih (p+1) (o.set p ((c+rd o p) % 10000)) ((c+rd o p) / 10000) Q2 Q2 (by simpa using h3) (h4.set _ Q2 (by rw [ef];omega)) Q2 Q2
   (by rw [ve _ _ _ _ Q2,Int.pow_succ,Int.mul_comm (RR ^ p) RR];exact Ht h7 (by rw [ef];omega))
  refine Ev.step (fun k=>by rw [ax.l2]) ?_
  rw [cy (x:=c+rd o p) Q2 Q2,fG (x:=c+rd o p) Q2,fB (x:=c+rd o p) Q2,cy (x:=(c+rd o p) / 10000) Q2 Q2,fM (i:=p) Q2,Int.toNat_natCast]
  exact bC Q2 (bC Q2 (bC Q2 h8))
theorem KY {x y:Int} (hx:0<=x/\x<10000) (hy:0<=y/\y<10000):0<=x*y/\x*y<=99980001:=by
 have h1:0<=x*y:=Int.mul_nonneg hx.1 hy.1
 have h2:x*y<=9999*9999:=Int.mul_le_mul Q2 Q2 hy.1 Q2
 omega
theorem J0 {T va vb x y qK P c c' v W xb Pi Pj:Int} (h:T+c*P=va*vb+x*Pi*xb) (h2:v+W*c'=c+(qK+x*y)) (hP:P=Pi*Pj):(T+(v-qK)*P)+c'*(W*P)=va*vb+x*Pi*(xb+y*Pj):=by grind
theorem IB {a b:List Int} (hn:a.length+b.length<68719476736) (ha:Dg RR a) (hb:Dg RR b) (i:Nat) (hi:i<a.length) (R:List Int)
 (hout:∀ o:List Int,o.length=a.length+b.length+1->Dg RR o->vl RR o=vl RR (a.take (i+1))*vl RR b->Ev (fun k=>ax.l0 k b o a (a.length:Int) ((i+1:Nat):Int)) R) (d:Nat) :
 ∀ (j:Nat) (o:List Int) (c:Int),b.length-j=d->j<=b.length->o.length=a.length+b.length+1->Dg RR o->0<=c->c<10000 ->
 vl RR o+c*RR ^ (i+j)=vl RR (a.take i)*vl RR b+rd a i*RR ^ i*vl RR (b.take j) ->
 Ev (fun k=>ax.l1 k b o (i:Int) (rd a i) c a (a.length:Int) (i:Int) b (b.length:Int) (j:Int)) R:=by
 have hx:=dO ha (i:Int) Q2 Q2
 rw [ef] at hx
 induction d with
 | zero =>
  intro j o c h1 h2 h3 h4 h5 h6 h7
  have e:j=b.length:=Q2
  subst e
  rw [List.take_length] at h7
  have h8:=CZ h7
  rw [<- dH RR a i hi] at h8
  have f:vl RR (a.take (i+1))*vl RR b<RR ^ (a.length+b.length):=by
   rw [Int.pow_add]
   have q1:=fW aW (ha.take (i+1))
   have q2:=fj (B:=RR) (by have:=cD;omega) (show (a.take (i+1)).length<=a.length by rw [List.length_take];omega)
   exact zD Q2 (fW aW hb) (bN aW (ha.take _)) (bN aW hb)
  have h9:=KL (a:=a) (b:=b) (V:=vl RR (a.take (i+1))*vl RR b) hn f (i:Int) R (fun o' q1 q2 q3=>by rw [fM (i:=i) Q2];exact hout o' q1 q2 q3) (a.length+b.length+1-(i+b.length)) (i+b.length) o c rfl Q2 h3 h4 h5 h6 h8
  have ei:((i:Int)+(b.length:Int))=((i+b.length:Nat):Int):=Q2
  refine Ev.step (fun k=>by rw [ax.l1]) ?_
  rw [ei,cy (x:=((i+b.length:Nat):Int)) Q2 Q2]
  exact eD Q2 h9
 | succ d ih =>
  intro j o c h1 h2 h3 h4 h5 h6 h7
  have hy:=dO hb (j:Int) Q2 Q2
  have ho:=dO h4 ((i+j:Nat):Int) Q2 Q2
  rw [ef] at hy ho
  have hm:=KY hx hy
  have h8:=ih (j+1) (o.set (i+j) ((c+(rd o ((i+j:Nat):Int)+rd a i*rd b j)) % 10000)) ((c+(rd o ((i+j:Nat):Int)+rd a i*rd b j)) / 10000) Q2 Q2 (by simpa using h3) (h4.set _ Q2 (by rw [ef];omega)) Q2 Q2
   (by
    rw [ve _ _ _ _ Q2,dH RR b j Q2,show i+(j+1)=i+j+1 by omega,Int.pow_succ,Int.mul_comm (RR ^ (i+j)) RR]
    exact J0 h7 (by rw [ef];omega) (Int.pow_add _ _ _))
  have ei:((i:Int)+(j:Int))=((i+j:Nat):Int):=Q2
  refine Ev.step (fun k=>by rw [ax.l1]) ?_
  rw [ei,cy (x:=((i+j:Nat):Int)) Q2 Q2,cy (x:=rd a i*rd b j) Q2 Q2,cy (x:=rd o ((i+j:Nat):Int)+rd a i*rd b j) Q2 Q2,cy (x:=c+(rd o ((i+j:Nat):Int)+rd a i*rd b j)) Q2 Q2,
   fG (x:=c+(rd o ((i+j:Nat):Int)+rd a i*rd b j)) Q2,fB (x:=c+(rd o ((i+j:Nat):Int)+rd a i*rd b j)) Q2,cy (x:=(c+(rd o ((i+j:Nat):Int)+rd a i*rd b j)) / 10000) Q2 Q2,fM (i:=j) Q2,Int.toNat_natCast]
  exact bC Q2 (bC Q2 (bC Q2 (bC Q2 (bC Q2 h8))))
theorem GJ {a b:List Int} (hn:a.length+b.length<68719476736) (ha:Dg RR a) (hb:Dg RR b):∃ R,Can RR R (vl RR a*vl RR b)/\R.length<=a.length+b.length/\∀ (d i:Nat) (o:List Int),a.length-i=d->i<=a.length->o.length=a.length+b.length+1->Dg RR o->vl RR o=vl RR (a.take i)*vl RR b ->
 Ev (fun k=>ax.l0 k b o a (a.length:Int) (i:Int)) R:=by
 have f:0<=vl RR a*vl RR b:=Int.mul_nonneg (bN aW ha) (bN aW hb)
 obtain ⟨R,hR⟩:=JQ cD f
 have c:R.length<=a.length+b.length:=by
  refine hR.gx cD ?_
  rw [Int.pow_add]
  exact zD (fW aW ha) (fW aW hb) (bN aW ha) (bN aW hb)
 refine ⟨R,hR,c,?_⟩
 intro d
 induction d with
 | zero =>
  intro i o h1 h2 h3 h4 h5
  have e:i=a.length:=Q2
  subst e
  rw [List.take_length] at h5
  obtain ⟨r,h8,h9,g⟩:=lY (l:=o) Q2 h4
  rw [h5] at h9
  rw [bu aW hR h9]
  refine Ev.step (fun k=>by rw [ax.l0]) ?_
  exact eD Q2 (Ev.bind h8 (aX _))
 | succ d ih =>
  intro i o h1 h2 h3 h4 h5
  have h6:=IB hn ha hb i Q2 R (fun o' q1 q2 q3=>ih (i+1) o' Q2 Q2 q1 q2 q3) b.length 0 o 0 Q2 Q2 h3 h4 Q2 Q2 (by rw [h5];simp [vl])
  refine Ev.step (fun k=>by rw [ax.l0]) ?_
  exact bC Q2 (bC Q2 (bC Q2 h6))
theorem IA {a b:List Int} {n m:Int} (hn:a.length+b.length<68719476736) (ha:Can RR a n) (hb:Can RR b m):∃ r,Ev (fun k=>ax.f k a b) r/\Can RR r (n*m)/\r.length<=a.length+b.length:=by
 obtain ⟨R,h1,h2,h3⟩:=GJ hn ha.1 hb.1
 rw [ha.2.2,hb.2.2] at h1
 refine ⟨R,?_,h1,h2⟩
 have h4:=h3 a.length 0 (List.replicate (a.length+b.length+1) 0) Q2 Q2 Q3 (Dg.rep aW _) (by simp [vl,yI])
 unfold ax.f
 have e:(a.length:Int)+(b.length:Int)=((a.length+b.length:Nat):Int):=Q2
 rw [e,cy (x:=((a.length+b.length:Nat):Int)) Q2 Q2,fM (i:=a.length+b.length) Q2,Int.toNat_natCast]
 exact bC Q2 (bC Q2 h4)
theorem nj (l:List Int) (x:Int) (h:l++[x]≠[]):(l++[x]).getLast h=x:=by simp
theorem fy (l:List Int) (i:Nat) (v:Int) (h:i<l.length):(l.set i v).drop i=v :: l.drop (i+1):=by
 rw [List.drop_eq_getElem_cons (by simpa using h),List.getElem_set_self,gU]
theorem fC (l:List Int) (i:Nat) (h:i<l.length):l.drop i=rd l i :: l.drop (i+1):=by
 rw [kC l i h]
 exact List.drop_eq_getElem_cons h
theorem Hs {t r va q rr d R K:Int} (h:t*K+r=va) (h2:q*K+rr=r*R+d):(q+R*t)*K+rr=d+R*va:=by grind
theorem DL {a:List Int} (hn:a.length<68719476736) (ha:Dg RR a) {K:Int} (hK:1<=K/\K<=65536) (d:Nat):∀ (i:Nat) (o:List Int) (r:Int),i=d->i<=a.length->o.length=a.length->Dg RR (o.drop i)->0<=r->r<K->vl RR (o.drop i)*K+r=vl RR (a.drop i) ->
 ∃ q z,Ev (fun k=>bj.l0 k a K o r ((i:Int)-1)) (q,z)/\(∃ m,Can RR q m/\m*K+z=vl RR a)/\0<=z/\z<K/\q.length<=a.length:=by
 induction d with
 | zero =>
  rintro i o r rfl h1 h2 h3 h4 h5 h6
  rw [List.drop_zero] at h3 h6
  rw [List.drop_zero] at h6
  obtain ⟨q,h7,h8,h9⟩:=lY (l:=o) Q2 h3
  refine ⟨q,r,?_,⟨_,h8,h6⟩,h4,h5,Q2⟩
  refine Ev.step (fun k=>by rw [bj.l0]) ?_
  exact eD Q2 (Ev.bind h7 (aX _))
 | succ d ih =>
  rintro i o r rfl h1 h2 h3 h4 h5 h6
  have e1:(((d+1:Nat):Int)-1)=(d:Int):=Q2
  have hx:=dO ha (d:Int) Q2 Q2
  rw [ef] at hx
  have b:0<=r*10000+rd a d:=Q2
  have c:0<=(r*10000+rd a d) / K:=Int.ediv_nonneg b Q2
  have f:(r*10000+rd a d) / K<10000:=by
   refine Int.ediv_lt_of_lt_mul Q2 ?_
   have:(r+1)*10000<=K*10000:=Int.mul_le_mul_of_nonneg_right Q2 Q2
   omega
  have g:=Int.emod_nonneg (r*10000+rd a d) (show K≠0 by omega)
  have h:=Int.emod_lt_of_pos (r*10000+rd a d) (show 0<K by omega)
  have e:(r*10000+rd a d) / K*K+(r*10000+rd a d) % K=r*RR+rd a d:=by rw [ef];exact Int.ediv_mul_add_emod _ _
  obtain ⟨q,z,h7,h8⟩:=ih d (o.set d ((r*10000+rd a d) / K)) ((r*10000+rd a d) % K) rfl Q2 (by simpa using h2)
   (by rw [fy _ _ _ Q2];exact Dg.mk c (by rw [ef];exact f) h3) g h
   (by rw [fy _ _ _ Q2,fC a d Q2,vl,vl];exact Hs h6 e)
  refine ⟨q,z,?_,h8⟩
  refine Ev.step (fun k=>by rw [bj.l0]) ?_
  rw [e1,cy (x:=r*10000) Q2 Q2,cy (x:=r*10000+rd a d) Q2 Q2,fB b,fG b,cy (x:=(r*10000+rd a d) / K) Q2 Q2,cy (x:=(d:Int)-1) Q2 Q2,Int.toNat_natCast]
  exact bC Q2 (bC Q2 (bC Q2 (eD Q2 (bC Q2 h7))))
theorem vF {a:List Int} {n K:Int} (hn:a.length<68719476736) (ha:Can RR a n) (hK:1<=K/\K<=65536):∃ q,Ev (fun k=>bj.f k a K) (q,n % K)/\Can RR q (n / K)/\q.length<=a.length:=by
 obtain ⟨q,z,h1,⟨m,h2,h3⟩,h4,h5,h6⟩:=DL hn ha.1 hK a.length a.length (List.replicate a.length 0) 0 rfl (Nat.le_refl _) Q3 (by rw [List.drop_of_length_le Q3];exact Dg.nil _) Q2 Q2 (by rw [List.drop_of_length_le Q3,List.drop_of_length_le Q3];simp [vl])
 rw [ha.2.2] at h3
 have e1:n % K=z:=by rw [<- h3,Int.add_comm,Int.add_mul_emod_self_right,Int.emod_eq_of_lt h4 h5]
 have e2:n / K=m:=by
  have h7:=Int.ediv_mul_add_emod n K
  rw [e1] at h7
  exact Int.eq_of_mul_eq_mul_right (a:=K) Q2 Q2
 rw [e1,e2]
 refine ⟨q,?_,h2,h6⟩
 unfold bj.f
 rw [Int.toNat_natCast,cy Q2 Q2]
 exact bC Q2 (bC Q2 h1)
abbrev HH:Int:=65536
theorem C2:HH=65536:=rfl
theorem vl2 (h:List Int) (i:Nat) (hi:i+1<h.length):vl HH (h.drop i)=rd h i+65536*rd h ((i+1:Nat):Int)+WW*vl HH (h.drop (i+2)):=by
 rw [fC h i Q2,vl,fC h (i+1) hi,vl,cS,C2,show i+1+1=i+2 from rfl]
 omega
theorem vl1 (h:List Int) (i:Nat) (hi:i+1=h.length):vl HH (h.drop i)=rd h i:=by
 rw [fC h i Q2,vl,List.drop_of_length_le Q2]
 simp [vl]
theorem alg_w {vo P x w V W T:Int} (h:vo+P*T=V) (h2:T=w+W*x):(vo+w*P)+(W*P)*x=V:=by grind
theorem Bs {h:List Int} (hn:h.length<68719476736) (hd:Dg HH h) (hnm:Nm h) (n:Int) (d:Nat):∀ (i:Nat) (o:List Int),h.length-i=d->i=2*o.length->Dg WW o->(h.length<=i->Nm o)->vl WW o+WW ^ o.length*vl HH (h.drop i)=n ->
 ∃ r,Ev (fun k=>aE.l1 k h o (i:Int)) r/\Can WW r n:=by
 induction d using Nat.strongRecOn with
 | _ d ih =>
  intro i o h1 h2 h3 h4 h5
  by_cases hi:i<h.length
  ·have hx:=dO hd (i:Int) Q2 Q2
   rw [C2] at hx
   have a:(i:Int)+2=((i+2:Nat):Int):=Q2
   by_cases hi1:i+1<h.length
   ·have hy:=dO hd ((i+1:Nat):Int) Q2 Q2
    rw [C2] at hy
    have hl:i+2=h.length->rd h ((i+1:Nat):Int)≠0:=by
     intro he
     have h6:=hnm.rd Q2
     rw [show (h.length:Int)-1=((i+1:Nat):Int) by omega] at h6
     exact h6
    obtain ⟨r,h7,h8⟩:=ih (h.length-(i+2)) Q2 (i+2) (o++[rd h i+65536*rd h ((i+1:Nat):Int)]) rfl (by simp;omega) (h3.append (Dg.mk Q2 (by rw [cS];omega) (Dg.nil _)))
     (by
      intro hle hne
      rw [nj]
      have:=hl Q2
      omega)
     (by rw [mJ,List.length_append,List.length_singleton,Int.pow_succ,Int.mul_comm (WW ^ o.length) WW];exact alg_w h5 (vl2 h i hi1))
    refine ⟨r,?_,h8⟩
    refine Ev.step (fun k=>by rw [aE.l1]) ?_
    have ew:(rd h i % 4294967296+rd h ((i+1:Nat):Int) % 4294967296*65536 % 4294967296) % 4294967296=rd h i+65536*rd h ((i+1:Nat):Int):=Q2
    rw [fM (i:=i) Q2,ew,a,cy (x:=((i+2:Nat):Int)) Q2 Q2]
    exact bC Q2 (bC Q2 (bC Q2 (bC Q2 (bC Q2 h7))))
   have hl:rd h (i:Int)≠0:=by
    have h6:=hnm.rd Q2
    rw [show (h.length:Int)-1=(i:Int) by omega] at h6
    exact h6
   obtain ⟨r,h7,h8⟩:=ih (h.length-(i+2)) Q2 (i+2) (o++[rd h i]) rfl (by simp;omega) (h3.append (Dg.mk Q2 (by rw [cS];omega) (Dg.nil _)))
    (by
     intro hle hne
     rw [nj]
     exact hl)
    (by
     rw [mJ,List.length_append,List.length_singleton,Int.pow_succ,Int.mul_comm (WW ^ o.length) WW]
     refine alg_w (T:=vl HH (h.drop i)) h5 ?_
     rw [vl1 h i Q2,List.drop_of_length_le Q2]
     simp [vl])
   refine ⟨r,?_,h8⟩
   refine Ev.step (fun k=>by rw [aE.l1]) ?_
   have ew:rd h i % 4294967296=rd h i:=Q2
   rw [fM (i:=i) Q2,ew,a,cy (x:=((i+2:Nat):Int)) Q2 Q2]
   exact bC Q2 (bC Q2 (eD Q2 (bC Q2 h7)))
  rw [List.drop_of_length_le Q2] at h5
  refine ⟨o,?_,h3,h4 Q2,by simpa [vl] using h5⟩
  refine Ev.step (fun k=>by rw [aE.l1]) ?_
  exact eD Q2 (aX _)
theorem alg_h {vh P m q r K n:Int} (h:vh+m*P=n) (h2:q*K+r=m):(vh+r*P)+q*(K*P)=n:=by grind
theorem DK (n:Int) (c:Nat):∀ (a h:List Int) (m:Int),m.toNat=c->Can RR a m->a.length+h.length<17179869184->h.length+4*a.length<17179869184->Dg HH h->(m=0->Nm h)->vl HH h+m*HH ^ h.length=n->(∀ a':List Int,a'.length<=a.length->True) ->
 ∃ r,Ev (fun k=>aE.l0 k a h) r/\Can WW r n:=by
 induction c using Nat.strongRecOn with
 | _ c ih =>
  intro a h m hm ha hl hl2 hd hnm hv _
  have d:=ha.fT aW
  by_cases hz:m=0
  ·have e:a=[]:=(ha.zC aW).2 hz
   subst hz
   subst e
   rw [Int.zero_mul,Int.add_zero] at hv
   obtain ⟨r,h1,h2⟩:=Bs Q2 hd (hnm rfl) n h.length 0 [] Q2 rfl (Dg.nil _) (fun _=>Nm.nil) (by simpa [vl] using hv)
   refine ⟨r,?_,h2⟩
   refine Ev.step (fun k=>by rw [aE.l0]) ?_
   exact eD Q3 h1
  have b:a.length≠0:=fun h0=>hz ((ha.jj aW).1 h0)
  obtain ⟨q,h1,h2,h3⟩:=vF (K:=65536) Q2 ha Q2
  have hq:q.length+1<=a.length:=by
   have h4:=ha.lt aW
   have h5:m / 65536<RR ^ (a.length-1):=by
    have h6:RR ^ a.length=RR ^ (a.length-1)*RR:=by
     conv=>lhs;rw [show a.length=a.length-1+1 by omega,Int.pow_succ]
    rw [h6,ef] at h4
    rw [ef]
    omega
   have:=h2.gx cD h5
   omega
  obtain ⟨r,h7,h8⟩:=ih (m / 65536).toNat Q2 q (h++[m % 65536]) (m / 65536) rfl h2 (by simp;omega) (by simp;omega) (hd.append (Dg.mk Q2 (by rw [C2];omega) (Dg.nil _)))
   (by
    intro hz2 hne
    rw [nj]
    omega)
   (by rw [mJ,List.length_append,List.length_singleton,Int.pow_succ,Int.mul_comm (HH ^ h.length) HH];exact alg_h hv (by rw [C2];omega)) (fun _ _=>trivial)
  refine ⟨r,?_,h8⟩
  refine Ev.step (fun k=>by rw [aE.l0]) ?_
  exact bC Q2 (Ev.bind h1 (bC Q2 h7))
theorem DJ {a:List Int} {n:Int} (hn:a.length<1073741824) (ha:Can RR a n):∃ r,Ev (fun k=>aE.f k a) r/\Can WW r n:=by
 obtain ⟨r,h1,h2⟩:=DK n n.toNat a [] n rfl ha (by simp;omega) (by simp;omega) (Dg.nil _) (fun _=>Nm.nil) (by simp [vl]) (fun _ _=>trivial)
 exact ⟨r,Ev.congr (fun k=>by rw [aE.f]) h1,h2⟩
theorem eq_ev {a b:List Int} (hl:a.length=b.length) (hn:a.length<4611686018427387904) (d:Nat):∀ i:Nat,a.length-i=d->i<=a.length->a.take i=b.take i->∃ r,Ev (fun k=>aB.l0 k a b (a.length:Int) (i:Int)) r/\(r=true↔a=b):=by
 induction d with
 | zero =>
  intro i h1 h2 h3
  have e:i=a.length:=Q2
  subst e
  rw [List.take_length,List.take_of_length_le Q2] at h3
  refine ⟨true,?_,by simp [h3]⟩
  refine Ev.step (fun k=>by rw [aB.l0]) ?_
  exact eD Q2 (aX _)
 | succ d ih =>
  intro i h1 h2 h3
  by_cases he:rd a i=rd b i
  ·obtain ⟨r,h4,h5⟩:=ih (i+1) Q2 Q2 (by
    rw [List.take_succ_eq_append_getElem Q2,List.take_succ_eq_append_getElem Q2,h3,<- kC a i Q2,<- kC b i Q2,he])
   refine ⟨r,?_,h5⟩
   refine Ev.step (fun k=>by rw [aB.l0]) ?_
   rw [fM (i:=i) Q2]
   exact bC Q2 (bC Q2 (bC Q2 (bC Q2 (bC he h4))))
  refine ⟨false,?_,by
   simp only [Bool.false_eq_true,false_iff]
   rintro rfl
   exact he rfl⟩
  refine Ev.step (fun k=>by rw [aB.l0]) ?_
  exact bC Q2 (bC Q2 (bC Q2 (bC Q2 (eD he (aX _)))))
theorem eq_sp (a b:List Int) (hn:a.length<4611686018427387904):∃ r,Ev (fun k=>aB.f k a b) r/\(r=true↔a=b):=by
 unfold aB.f
 by_cases hl:a.length=b.length
 ·obtain ⟨r,h1,h2⟩:=eq_ev hl hn a.length 0 Q2 Q2 Q3
  exact ⟨r,bC Q2 h1,h2⟩
 refine ⟨false,eD Q2 (aX _),?_⟩
 simp only [Bool.false_eq_true,false_iff]
 rintro rfl
 exact hl rfl
theorem BN (k:IntKind) (a b:Int):Go.bits .or k a b=Go.bits .or k b a:=by
 simp only [Go.bits]
 rw [BitVec.or_comm]
theorem D4 {h x:Int} (hh:0<=h/\h<4294967296) (hx:0<=x/\x<4294967296):Go.bits .or .u64 (h*4294967296) x=h*4294967296+x :=
 bits_join .u64 64 (by decide) (fun n h0 h1=>by rw [IntKind.wrap_u64];omega) 32 _ _ Q2 Q2 Q2 hx.1 Q2 Q2
theorem or64' {h x:Int} (hh:0<=h/\h<4294967296) (hx:0<=x/\x<4294967296):Go.bits .or .u64 x (h*4294967296)=h*4294967296+x:=by
 rw [BN,D4 hh hx]
theorem alg_dw {t r va q rr d R K:Int} (h:t*K+r=va) (h2:q*K+rr=r*R+d):(q+R*t)*K+rr=d+R*va:=by grind
theorem wj {a:List Int} (hn:a.length<68719476736) (ha:Dg WW a) {K:Int} (hK:1<=K/\K<4294967296) (d:Nat):∀ (i:Nat) (o:List Int) (r:Int),i=d->i<=a.length->o.length=a.length->Dg WW (o.drop i)->0<=r->r<K->vl WW (o.drop i)*K+r=vl WW (a.drop i) ->
 ∃ q z,Ev (fun k=>dN.l0 k a K o r ((i:Int)-1)) (q,z)/\(∃ m,Can WW q m/\m*K+z=vl WW a)/\0<=z/\z<K/\q.length<=a.length:=by
 induction d with
 | zero =>
  rintro i o r rfl h1 h2 h3 h4 h5 h6
  rw [List.drop_zero] at h3 h6
  rw [List.drop_zero] at h6
  obtain ⟨q,h7,h8,h9⟩:=fH (l:=o) Q2 h3
  have er:r % 4294967296=r:=Q2
  refine ⟨q,r,?_,⟨_,h8,h6⟩,h4,h5,Q2⟩
  refine Ev.step (fun k=>by rw [dN.l0]) ?_
  rw [er]
  exact eD Q2 (Ev.bind h7 (aX _))
 | succ d ih =>
  rintro i o r rfl h1 h2 h3 h4 h5 h6
  have e1:(((d+1:Nat):Int)-1)=(d:Int):=Q2
  have hx:=dO ha (d:Int) Q2 Q2
  rw [cS] at hx
  have b:0<=r*4294967296+rd a d:=Q2
  have c:0<=(r*4294967296+rd a d) / K:=Int.ediv_nonneg b Q2
  have e:(r*4294967296+rd a d) / K<4294967296:=by
   refine Int.ediv_lt_of_lt_mul Q2 ?_
   have:(r+1)*4294967296<=K*4294967296:=Int.mul_le_mul_of_nonneg_right Q2 Q2
   omega
  have g:=Int.emod_nonneg (r*4294967296+rd a d) (show K≠0 by omega)
  have h:=Int.emod_lt_of_pos (r*4294967296+rd a d) (show 0<K by omega)
  have f:(r*4294967296+rd a d) / K*K+(r*4294967296+rd a d) % K=r*WW+rd a d:=by rw [cS];exact Int.ediv_mul_add_emod _ _
  obtain ⟨q,z,h7,h8⟩:=ih d (o.set d ((r*4294967296+rd a d) / K)) ((r*4294967296+rd a d) % K) rfl Q2 (by simpa using h2)
   (by rw [fy _ _ _ Q2];exact Dg.mk c (by rw [cS];exact e) h3) g h
   (by rw [fy _ _ _ Q2,fC a d Q2,vl,vl];exact alg_dw h6 f)
  refine ⟨q,z,?_,h8⟩
  refine Ev.step (fun k=>by rw [dN.l0]) ?_
  rw [e1,u64 (x:=r*4294967296) Q2 Q2,u64 (x:=rd a d) Q2 Q2,u64 (x:=K) Q2 Q2,D4 ⟨h4,Q2⟩ hx,fB b,fG b,u64 (x:=(r*4294967296+rd a d) / K) Q2 Q2,cy (x:=(d:Int)-1) Q2 Q2,Int.toNat_natCast,Int.emod_eq_of_lt c e]
  exact bC Q2 (bC Q2 (bC Q2 (eD Q2 (bC Q2 h7))))
theorem wi {a:List Int} {n K:Int} (hn:a.length<68719476736) (ha:Can WW a n) (hK:1<=K/\K<4294967296):∃ q,Ev (fun k=>dN.f k a K) (q,n % K)/\Can WW q (n / K)/\q.length<=a.length:=by
 obtain ⟨q,z,h1,⟨m,h2,h3⟩,h4,h5,h6⟩:=wj hn ha.1 hK a.length a.length (List.replicate a.length 0) 0 rfl (Nat.le_refl _) Q3 (by rw [List.drop_eq_nil_of_le Q3];exact Dg.nil _) Q2 Q2 (by rw [List.drop_eq_nil_of_le Q3,List.drop_length];simp [vl])
 rw [ha.2.2] at h3
 have e1:n / K=m:=by
  rw [<- h3,Int.add_comm,Int.add_mul_ediv_right _ _ Q2,Int.ediv_eq_zero_of_lt h4 h5];omega
 have e2:n % K=z:=by
  rw [<- h3,Int.add_comm,Int.add_mul_emod_self_right,Int.emod_eq_of_lt h4 h5]
 refine ⟨q,?_,by rw [e1];exact h2,h6⟩
 unfold dN.f
 rw [e2,cy (x:=(a.length:Int)-1) Q2 Q2,Int.toNat_natCast]
 exact bC Q2 (bC Q2 h1)
theorem Kr:∀ i:Fin 256,∃ L:Fin 9,bt (⟨#[0,1,2,2,3,3,3,3,4,4,4,4,4,4,4,4,5,5,5,5,5,5,5,5,5,5,5,5,5,5,5,5,6,6,6,6,6,6,6,6,6,6,6,6,6,6,6,6,6,6,6,6,6,6,6,6,6,6,6,6,6,6,6,6,7,7,7,7,7,7,7,7,7,7,7,7,7,7,7,7,7,7,7,7,7,7,7,7,7,7,7,7,7,7,7,7,7,7,7,7,7,7,7,7,7,7,7,7,7,7,7,7,7,7,7,7,7,7,7,7,7,7,7,7,7,7,7,7,8,8,8,8,8,8,8,8,8,8,8,8,8,8,8,8,8,8,8,8,8,8,8,8,8,8,8,8,8,8,8,8,8,8,8,8,8,8,8,8,8,8,8,8,8,8,8,8,8,8,8,8,8,8,8,8,8,8,8,8,8,8,8,8,8,8,8,8,8,8,8,8,8,8,8,8,8,8,8,8,8,8,8,8,8,8,8,8,8,8,8,8,8,8,8,8,8,8,8,8,8,8,8,8,8,8,8,8,8,8,8,8,8,8,8,8,8,8,8,8,8,8,8,8,8,8,8,8]⟩:ByteArray) ((i.val:Nat):Int)=(L.val:Int)/\i.val<2 ^ L.val/\(i.val≠0->2 ^ (L.val-1)<=i.val/\1<=L.val):=by decide +kernel
theorem rA {x:Int} (h0:0<=x) (h1:x<256):∃ L:Nat,bt (⟨#[0,1,2,2,3,3,3,3,4,4,4,4,4,4,4,4,5,5,5,5,5,5,5,5,5,5,5,5,5,5,5,5,6,6,6,6,6,6,6,6,6,6,6,6,6,6,6,6,6,6,6,6,6,6,6,6,6,6,6,6,6,6,6,6,7,7,7,7,7,7,7,7,7,7,7,7,7,7,7,7,7,7,7,7,7,7,7,7,7,7,7,7,7,7,7,7,7,7,7,7,7,7,7,7,7,7,7,7,7,7,7,7,7,7,7,7,7,7,7,7,7,7,7,7,7,7,7,7,8,8,8,8,8,8,8,8,8,8,8,8,8,8,8,8,8,8,8,8,8,8,8,8,8,8,8,8,8,8,8,8,8,8,8,8,8,8,8,8,8,8,8,8,8,8,8,8,8,8,8,8,8,8,8,8,8,8,8,8,8,8,8,8,8,8,8,8,8,8,8,8,8,8,8,8,8,8,8,8,8,8,8,8,8,8,8,8,8,8,8,8,8,8,8,8,8,8,8,8,8,8,8,8,8,8,8,8,8,8,8,8,8,8,8,8,8,8,8,8,8,8,8,8,8,8,8,8]⟩:ByteArray) x=(L:Int)/\L<=8/\x<2 ^ L/\(x≠0->2 ^ (L-1)<=x/\1<=L):=by
 obtain ⟨n,rfl⟩:=Int.eq_ofNat_of_zero_le h0
 obtain ⟨L,h2,h3,h4⟩:=Kr ⟨n,Q2⟩
 refine ⟨L.val,h2,Q2,by exact_mod_cast h3,fun h=>?_⟩
 obtain ⟨h5,h6⟩:=h4 (show n≠0 by omega)
 exact ⟨by exact_mod_cast h5,h6⟩
theorem Dw {x y:Int} {L k:Nat} (h0:0<=x) (e:y=x / 2 ^ k) (h1:y<2 ^ L) (h2:2 ^ (L-1)<=y) (h3:1<=L):x<2 ^ (k+L)/\2 ^ (k+L-1)<=x:=by
 have hp:(0:Int)<2 ^ k:=Int.pow_pos (by decide)
 have d1:=Int.mul_ediv_add_emod x (2 ^ k)
 have d2:=Int.emod_nonneg x (show (2:Int) ^ k≠0 by omega)
 have d3:=Int.emod_lt_of_pos x hp
 rw [<- e] at d1
 have e2:k+L-1=k+(L-1):=Q2
 rw [e2,Int.pow_add,Int.pow_add]
 have m1:(2:Int) ^ k*(y+1)<=2 ^ k*2 ^ L:=Int.mul_le_mul_of_nonneg_left Q2 Q2
 have m2:(2:Int) ^ k*2 ^ (L-1)<=2 ^ k*y:=Int.mul_le_mul_of_nonneg_left h2 Q2
 rw [Int.mul_add] at m1
 omega
theorem Ja {x:Int} (h0:0<=x) (h1:x<4294967296):∃ L:Nat,bits_Len32.f x=some (L:Int)/\L<=32/\x<2 ^ L/\(x≠0->2 ^ (L-1)<=x/\1<=L):=by
 unfold bits_Len32.f
 by_cases c1:x>=65536
 ·by_cases c2:x / 65536>=256
  ·have e:x / 65536 / 256 % 256=x / 2 ^ 24:=by omega
   obtain ⟨L,t1,t2,t3,t4⟩:=rA (x:=x / 2 ^ 24) Q2 Q2
   obtain ⟨t5,t6⟩:=t4 Q2
   obtain ⟨t7,t8⟩:=Dw h0 rfl t3 t5 t6
   refine ⟨24+L,?_,Q2,t7,fun _=>⟨t8,Q2⟩⟩
   rw [if_pos c1,if_pos c2,e,if_pos Q2,if_pos Q2,t1,cy (x:=(L:Int)) Q2 Q2,cy Q2 Q2]
   exact congrArg some Q2
  have e:x / 65536 % 256=x / 2 ^ 16:=Q2
  obtain ⟨L,t1,t2,t3,t4⟩:=rA (x:=x / 2 ^ 16) Q2 Q2
  obtain ⟨t5,t6⟩:=t4 Q2
  obtain ⟨t7,t8⟩:=Dw h0 rfl t3 t5 t6
  refine ⟨16+L,?_,Q2,t7,fun _=>⟨t8,Q2⟩⟩
  rw [if_pos c1,if_neg c2,e,if_pos Q2,if_pos Q2,t1,cy (x:=(L:Int)) Q2 Q2,cy Q2 Q2]
  exact congrArg some Q2
 by_cases c2:x>=256
 ·have e:x / 256 % 256=x / 2 ^ 8:=by omega
  obtain ⟨L,t1,t2,t3,t4⟩:=rA (x:=x / 2 ^ 8) Q2 Q2
  obtain ⟨t5,t6⟩:=t4 Q2
  obtain ⟨t7,t8⟩:=Dw h0 rfl t3 t5 t6
  refine ⟨8+L,?_,Q2,t7,fun _=>⟨t8,Q2⟩⟩
  rw [if_neg c1,if_pos c2,e,if_pos Q2,if_pos Q2,t1,cy (x:=(L:Int)) Q2 Q2,cy Q2 Q2]
  exact congrArg some Q2
 have e:x % 256=x:=Q2
 obtain ⟨L,t1,t2,t3,t4⟩:=rA (x:=x) Q2 Q2
 refine ⟨L,?_,Q2,t3,t4⟩
 rw [if_neg c1,if_neg c2,e,if_pos Q2,if_pos Q2,t1,cy (x:=(L:Int)) Q2 Q2,cy Q2 Q2]
 exact congrArg some Q2
theorem FD {x:Int} (h0:0<=x) (h1:x<4294967296):∃ L:Nat,bits_LeadingZeros32.f x=some ((32-L:Nat):Int)/\L<=32/\x<2 ^ L/\(x≠0->2 ^ (L-1)<=x/\1<=L):=by
 obtain ⟨L,t1,t2,t3⟩:=Ja h0 h1
 refine ⟨L,?_,t2,t3⟩
 unfold bits_LeadingZeros32.f
 rw [t1,Option.bind_some,cy Q2 Q2]
 exact congrArg some Q2
theorem EU (w:Nat):WW ^ w=2 ^ (32*w):=by rw [Int.pow_mul];rfl
theorem ya (s:Nat):(2:Int) ^ s=WW ^ (s / 32)*2 ^ (s % 32):=by
 rw [EU,<- Int.pow_add];congr 1;omega
theorem sr {a:List Int} (h:0<a.length):vl WW a=vl WW (a.take (a.length-1))+rd a ((a.length:Int)-1)*WW ^ (a.length-1):=by
 have e:=dH WW a (a.length-1) Q2
 rw [Nat.sub_add_cancel h,List.take_length] at e
 rw [e]
 congr 2
 congr 1
 omega
theorem uu {a:List Int} {n:Int} (hn:a.length<68719476736) (ha:Can WW a n):∃ b:Nat,gQ.f a=some (b:Int)/\b<=32*a.length/\(a.length=0->b=0)/\(n≠0->2 ^ (b-1)<=n/\n<2 ^ b/\1<=b/\32*(a.length-1)<b):=by
 unfold gQ.f
 by_cases c:a.length=0
 ·refine ⟨0,by rw [if_pos Q2];rfl,Q2,fun _=>rfl,fun h=>absurd ((ha.jj aH).1 c) h⟩
 have hx:=dO ha.1 ((a.length:Int)-1) Q2 Q2
 have d:=ha.2.1.rd Q2
 rw [cS] at hx
 obtain ⟨L,t1,t2,t3,t4⟩:=FD hx.1 hx.2
 obtain ⟨t5,t6⟩:=t4 d
 refine ⟨32*a.length-(32-L),?_,Q2,fun h=>absurd h c,fun _=>?_⟩
 ·rw [if_neg Q2,cy (x:=(a.length:Int)-1) Q2 Q2,if_pos Q2,if_pos Q2,t1,Option.bind_some,cy (x:=32*(a.length:Int)) Q2 Q2,cy Q2 Q2]
  congr 1
  omega
 have lv:=sr (a:=a) Q2
 rw [ha.2.2] at lv
 have hd:=ha.1.take (a.length-1)
 have l0:=bN aH hd
 have l1:=fW aH hd
 rw [List.length_take,Nat.min_eq_left Q2] at l1
 have hP:(0:Int)<WW ^ (a.length-1):=jb aH _
 generalize hr:rd a ((a.length:Int)-1)=r at *
 have e1:(2:Int) ^ (32*a.length-(32-L))=2 ^ L*WW ^ (a.length-1):=by rw [EU,<- Int.pow_add];congr 1;omega
 have e2:(2:Int) ^ (32*a.length-(32-L)-1)=2 ^ (L-1)*WW ^ (a.length-1):=by rw [EU,<- Int.pow_add];congr 1;omega
 have m1:(r+1)*WW ^ (a.length-1)<=2 ^ L*WW ^ (a.length-1):=Int.mul_le_mul_of_nonneg_right Q2 Q2
 have m2:2 ^ (L-1)*WW ^ (a.length-1)<=r*WW ^ (a.length-1):=Int.mul_le_mul_of_nonneg_right t5 Q2
 rw [Int.add_mul] at m1
 rw [e1,e2]
 exact ⟨Q2,Q2,Q2,Q2⟩
theorem Ih {x:Int} {p:Nat} (hp:p<32) (hx:0<=x/\x<4294967296):shl .u64 (IntKind.u64.wrap x) (p:Int)=x*2 ^ p/\0<=x*2 ^ p/\x*2 ^ p<4294967296*2 ^ p/\(2:Int) ^ p<=2147483648/\(1:Int)<=2 ^ p:=by
 have h1:(1:Int)<=2 ^ p:=by have:(0:Int)<2 ^ p:=Int.pow_pos (by decide);omega
 have h2:(2:Int) ^ p<=2 ^ 31:=by
  have:2 ^ p<=2 ^ 31:=Nat.pow_le_pow_right (by decide) Q2
  exact_mod_cast this
 have h3:x*2 ^ p<4294967296*2 ^ p:=Int.mul_lt_mul_of_pos_right hx.2 Q2
 have h4:0<=x*2 ^ p:=Int.mul_nonneg hx.1 Q2
 refine ⟨?_,h4,h3,Q2,h1⟩
 have hm:min p IntKind.u64.bits=p:=by
  have:IntKind.u64.bits=64:=rfl
  omega
 unfold shl
 rw [Int.toNat_natCast,hm,u64 (x:=x) Q2 Q2,u64 h4 Q2]
theorem LK {vo P qK lo hi va x M W T Q:Int} (h:vo+qK*P=va*M*T) (hy:lo+W*hi=x*M) (hP:P=T*Q):(vo+(qK+lo)*P)+hi*(W*P)=(va+x*Q)*M*T:=by grind
theorem IX {x qK:Int} {p:Nat} (hp:p<32) (hx:0<=x/\x<4294967296) (ho:0<=qK/\qK<2 ^ p):Go.bits .or .u32 qK (x*2 ^ p % 4294967296)=qK+x*2 ^ p % 4294967296:=by
 obtain ⟨_,h1,h2,h3,h4⟩:=Ih hp hx
 have hd:x*2 ^ p % 4294967296 % 2 ^ p=0:=by
  have a:(2:Int) ^ p ∣ 4294967296:=by
   have:(4294967296:Int)=2 ^ p*2 ^ (32-p):=by rw [<- Int.pow_add,show p+(32-p)=32 by omega];rfl
   rw [this];exact Int.dvd_mul_right _ _
  rw [Int.emod_emod_of_dvd _ a,Int.mul_emod_left]
 rw [BN,bits_join .u32 32 (by decide) (fun n h0 h1=>by rw [IntKind.wrap_u32];omega) p _ _ Q2 hd Q2 ho.1 ho.2 Q2]
 omega
theorem GR {x qK:Int} {p:Nat} (hp:p<32) (hx:0<=x/\x<4294967296) (ho:0<=qK/\qK<2 ^ p):qK+x*2 ^ p % 4294967296<4294967296:=by
 have h:=(bits_within .or .u32 qK (x*2 ^ p % 4294967296)).2
 rw [IX hp hx ho] at h
 have e:IntKind.u32.max=4294967295:=rfl
 rw [e] at h
 exact Int.lt_of_le_of_lt h (by decide)
theorem Eh {a:List Int} {w p:Nat} (hn:a.length+w<68719476736) (hp:p<32) (ha:Dg WW a) (d:Nat):∀ (i:Nat) (o:List Int),a.length-i=d->i<=a.length->o.length=a.length+w+1->Dg WW o->vl WW (o.take (i+w+1))=vl WW (a.take i)*2 ^ p*WW ^ w->rd o ((i+w:Nat):Int)<2 ^ p ->
 ∃ r,Ev (fun k=>ff.l0 k (w:Int) (p:Int) o a (a.length:Int) (i:Int)) r/\Can WW r (vl WW a*(WW ^ w*2 ^ p))/\r.length<=a.length+w+1:=by
 induction d with
 | zero =>
  intro i o h1 h2 h3 h4 h5 h6
  have ei:i=a.length:=Q2
  subst ei
  rw [<- h3,List.take_length,List.take_length] at h5
  obtain ⟨r,r1,r2,r3⟩:=fH (l:=o) Q2 h4
  rw [h5] at r2
  refine ⟨r,?_,by rw [Int.mul_comm (WW ^ w),<- Int.mul_assoc];exact r2,Q2⟩
  refine Ev.step (fun k=>by rw [ff.l0]) ?_
  exact eD Q2 (Ev.bind r1 (aX _))
 | succ d ih =>
  intro i o h1 h2 h3 h4 h5 h6
  have hx:=dO ha (i:Int) Q2 Q2
  have ho:=dO h4 ((i+w:Nat):Int) Q2 Q2
  rw [cS] at hx ho
  obtain ⟨s2,s3,s4,s5⟩:=(Ih hp hx).2
  have e:rd a (i:Int)*2 ^ p % 4294967296+WW*(rd a (i:Int)*2 ^ p / 4294967296)=rd a (i:Int)*2 ^ p:=by rw [cS];exact Int.emod_add_mul_ediv _ _
  have b:0<=rd a (i:Int)*2 ^ p / 4294967296:=Q2
  have c:rd a (i:Int)*2 ^ p / 4294967296<2 ^ p:=Int.ediv_lt_of_lt_mul Q2 Q2
  have g:=GR hp hx ⟨ho.1,h6⟩
  generalize hlo:rd a (i:Int)*2 ^ p % 4294967296=lo at *
  generalize hhi:rd a (i:Int)*2 ^ p / 4294967296=hi at *
  have f:0<=lo:=Q2
  have d1:Dg WW (o.set (i+w) (rd o ((i+w:Nat):Int)+lo)):=h4.set _ Q2 (by rw [cS];omega)
  obtain ⟨r,r1,r2⟩:=ih (i+1) ((o.set (i+w) (rd o ((i+w:Nat):Int)+lo)).set (i+w+1) hi) Q2 Q2 (by simpa using h3)
   (d1.set _ b (by rw [cS];omega))
   (by
    rw [show i+1+w+1=i+w+1+1 by omega,gM _ _ _ _ (by simp;omega),gM _ _ _ _ Q2,dH WW a i Q2,Int.pow_succ,Int.mul_comm (WW ^ (i+w)) WW]
    rw [dH WW o (i+w) Q2] at h5
    exact LK h5 e (by rw [Int.pow_add,Int.mul_comm]))
   (by
    rw [show ((i+1+w:Nat):Int)=((i+w+1:Nat):Int) by omega]
    have:=xW (o.set (i+w) (rd o ((i+w:Nat):Int)+lo)) ((i+w+1:Nat):Int) hi (by simp;omega)
    rw [Int.toNat_natCast] at this
    rw [this]
    exact c)
  refine ⟨r,?_,r2⟩
  refine Ev.step (fun k=>by rw [ff.l0]) ?_
  have e2:hi % 4294967296=hi:=Q2
  rw [show (i:Int)+(w:Int)=((i+w:Nat):Int) by omega,cy (x:=((i+w:Nat):Int)) Q2 Q2,fM (i:=i+w) Q2,fM (i:=i) Q2,Int.toNat_natCast,Int.toNat_natCast,(Ih hp hx).1,hlo,hhi,e2]
  have so:=IX hp hx ⟨ho.1,h6⟩
  rw [hlo] at so
  rw [so]
  clear so
  exact bC Q2 (bC Q2 (bC Q2 (bC Q2 (bC Q2 (bC Q2 (bC Q2 (bC Q2 r1)))))))
theorem wk {a:List Int} {n:Int} (s:Nat) (hn:a.length+s<68719476736) (ha:Can WW a n):∃ r,Ev (fun k=>ff.f k a (s:Int)) r/\Can WW r (n*2 ^ s)/\r.length<=a.length+s / 32+1:=by
 unfold ff.f
 by_cases c:a.length=0
 ·refine ⟨[],bC Q2 (aX _),?_,Q3⟩
  rw [(ha.jj aH).1 c,Int.zero_mul]
  exact Can.zero _
 obtain ⟨r,r1,r2,r3⟩:=Eh (a:=a) (w:=s / 32) (p:=s % 32) Q2 Q2 ha.1 a.length 0 (List.replicate (a.length+s / 32+1) 0) Q2 Q2 Q3 (Dg.rep aH _)
  (by rw [List.take_replicate,yI,List.take_zero,vl];simp)
  (by
   have h1:(0:Int)<2 ^ (s % 32):=Int.pow_pos (by decide)
   have h2:rd (List.replicate (a.length+s / 32+1) (0:Int)) ((0+s / 32:Nat):Int)=0:=by
    rw [kC _ _ (by simp;omega)];simp
   rw [h2];exact h1)
 rw [<- ya,ha.2.2] at r2
 refine ⟨r,?_,r2,r3⟩
 have e1:wrap64 (Int.tdiv (s:Int) 32)=((s / 32:Nat):Int):=by rw [fB Q2,cy Q2 Q2];omega
 have e2:IntKind.u64.wrap (Int.tmod (s:Int) 32)=((s % 32:Nat):Int):=by rw [fG Q2,u64 Q2 Q2];omega
 have e3:wrap64 (wrap64 ((a.length:Int)+((s / 32:Nat):Int))+1)=((a.length+s / 32+1:Nat):Int):=by rw [cy (x:=(a.length:Int)+((s / 32:Nat):Int)) Q2 Q2,cy Q2 Q2];omega
 rw [e1,e2,e3,Int.toNat_natCast]
 exact eD Q2 (bC Q2 (bC Q2 r1))
theorem two_pos (p:Nat):(0:Int)<2 ^ p:=Int.pow_pos (by decide)
theorem shr_p {x:Int} {p:Nat} (hp:p<32):shr .u64 x (p:Int)=x / 2 ^ p:=by
 have hm:min p IntKind.u64.bits=p:=by
  have:IntKind.u64.bits=64:=rfl
  omega
 unfold shr
 rw [Int.toNat_natCast,hm]
theorem Ka {p:Nat} (hp:p<32):WW=2 ^ p*2 ^ (32-p):=by rw [<- Int.pow_add,show p+(32-p)=32 by omega];rfl
theorem Ig {x T t:Int} {p:Nat} (hp:p<32) (hx:0<=x/\x<WW) (ht:0<=t/\t<WW) (hT:∃ u,0<=u/\T=t+WW*u) :
 (t*WW+x) / 2 ^ p % WW+WW*(T / 2 ^ p)=(x+WW*T) / 2 ^ p/\0<=(t*WW+x) / 2 ^ p % WW/\(t*WW+x) / 2 ^ p % WW<WW:=by
 obtain ⟨u,hu,hT⟩:=hT
 have hM:=two_pos p
 have hW:=Ka hp
 have hK:=two_pos (32-p)
 have a:=aH
 have b:=cS
 generalize hMM:(2:Int) ^ p=M at *
 generalize hKK:(2:Int) ^ (32-p)=K at *
 refine ⟨?_,Int.emod_nonneg _ Q2,Int.emod_lt_of_pos _ a⟩
 have d1:=Int.mul_ediv_add_emod t M
 have r0:=Int.emod_nonneg t (show M≠0 by omega)
 have r1:=Int.emod_lt_of_pos t hM
 generalize hq:t / M=q at *
 generalize hr:t % M=r at *
 clear hq hr
 have a1:t*WW+x=(x+WW*r)+M*(WW*q):=by rw [<- d1];grind
 have a2:T=r+M*(q+K*u):=by rw [hT,<- d1,hW];grind
 have a3:x+WW*T=(x+WW*r)+M*(WW*(q+K*u)):=by rw [a2];grind
 have lo:0<=x+WW*r:=by
  have:=Int.mul_nonneg (Int.le_of_lt a) r0
  omega
 have hi:x+WW*r<M*WW:=by
  have m:WW*(r+1)<=WW*M:=Int.mul_le_mul_of_nonneg_left Q2 Q2
  rw [Int.mul_add,Int.mul_comm WW M] at m
  omega
 rw [a1,a3,Int.add_mul_ediv_left _ _ Q2,Int.add_mul_ediv_left _ _ Q2]
 have e2:T / M=q+K*u:=by rw [a2,Int.add_mul_ediv_left _ _ Q2,Int.ediv_eq_zero_of_lt r0 r1];omega
 rw [e2]
 have b0:0<=(x+WW*r) / M:=Int.ediv_nonneg lo Q2
 have b1:(x+WW*r) / M<WW:=Int.ediv_lt_of_lt_mul hM (by rw [Int.mul_comm WW M];exact hi)
 rw [Int.add_mul_emod_self_left,Int.emod_eq_of_lt b0 b1]
theorem LJ {vo P d T W V T0:Int} (h:vo+P*T0=V) (h2:d+W*T=T0):(vo+d*P)+(P*W)*T=V:=by grind
theorem HJ (a:List Int) (ha:Dg WW a) (i:Nat):∃ t,0<=t/\t<WW/\(∃ u,0<=u/\vl WW (a.drop i)=t+WW*u)/\(i<a.length->t=rd a (i:Int))/\(a.length<=i->t=0):=by
 by_cases c:i<a.length
 ·have hx:=dO ha (i:Int) Q2 Q2
  refine ⟨rd a (i:Int),hx.1,hx.2,⟨vl WW (a.drop (i+1)),bN aH (ha.drop _),by rw [fC a i c,vl]⟩,fun _=>rfl,fun h=>Q2⟩
 exact ⟨0,by decide,by decide,⟨0,by decide,by rw [List.drop_eq_nil_of_le Q2,vl];rfl⟩,fun h=>absurd h c,fun _=>rfl⟩
theorem Eg {a:List Int} {w p m:Nat} (hn:a.length<68719476736) (hw:w+m=a.length) (hp:p<32) (ha:Dg WW a) (d:Nat):∀ (i:Nat) (o:List Int),m-i=d->i<=m->o.length=m->Dg WW (o.take i)->vl WW (o.take i)+WW ^ i*(vl WW (a.drop (i+w)) / 2 ^ p)=vl WW (a.drop w) / 2 ^ p ->
 ∃ r,Ev (fun k=>eW.l0 k a (w:Int) (p:Int) o (m:Int) (i:Int)) r/\Can WW r (vl WW (a.drop w) / 2 ^ p)/\r.length<=m:=by
 induction d with
 | zero =>
  intro i o h1 h2 h3 h4 h5
  have ei:i=m:=Q2
  subst ei
  rw [List.drop_eq_nil_of_le Q2,vl,Int.zero_ediv,Int.mul_zero,Int.add_zero,<- h3,List.take_length] at h5
  rw [<- h3,List.take_length] at h4
  obtain ⟨r,r1,r2,r3⟩:=fH (l:=o) Q2 h4
  rw [h5] at r2
  refine ⟨r,?_,r2,Q2⟩
  refine Ev.step (fun k=>by rw [eW.l0]) ?_
  exact eD Q2 (Ev.bind r1 (aX _))
 | succ d ih =>
  intro i o h1 h2 h3 h4 h5
  have hx:=dO ha ((i+w:Nat):Int) Q2 Q2
  obtain ⟨t,t0,t1,t2,t3,t4⟩:=HJ a ha (i+w+1)
  obtain ⟨s1,s2,s3⟩:=Ig hp hx ⟨t0,t1⟩ t2
  rw [fC a (i+w) Q2,vl] at h5
  obtain ⟨r,r1,r2⟩:=ih (i+1) (o.set i ((t*WW+rd a ((i+w:Nat):Int)) / 2 ^ p % WW)) Q2 Q2 (by simpa using h3)
   (Dg.take_set Q2 h4 s2 s3)
   (by
    rw [gM _ _ _ _ Q2,show i+1+w=i+w+1 by omega,Int.pow_succ]
    exact LJ h5 s1)
  refine ⟨r,?_,r2⟩
  refine Ev.step (fun k=>by rw [eW.l0]) ?_
  rw [cS] at hx t1
  rw [show (i:Int)+(w:Int)=((i+w:Nat):Int) by omega,cy (x:=((i+w:Nat):Int)) Q2 Q2,fM (i:=i+w) Q2,fM (i:=i) Q2,Int.toNat_natCast]
  refine bC Q2 (bC Q2 (bC Q2 ?_))
  by_cases c:i+w+1<a.length
  ·have e:=t3 c
   rw [<- e,u64 (x:=t) Q2 Q2,u64 (x:=rd a ((i+w:Nat):Int)) Q2 Q2,u64 (x:=t*4294967296) Q2 Q2,or64' ⟨t0,t1⟩ hx,shr_p (x:=t*4294967296+rd a ((i+w:Nat):Int)) hp]
   exact bC Q2 (bC Q2 (bC Q2 (bC Q2 (bC Q2 r1))))
  have e:=t4 Q2
  subst e
  rw [Int.zero_mul,Int.zero_add] at r1
  rw [u64 (x:=rd a ((i+w:Nat):Int)) Q2 Q2,shr_p (x:=rd a ((i+w:Nat):Int)) hp]
  exact eD Q2 (bC Q2 (bC Q2 (bC Q2 r1)))
theorem LB {a:List Int} {n:Int} (ha:Can WW a n) (s:Nat):(s / 32<a.length->n / 2 ^ s=vl WW (a.drop (s / 32)) / 2 ^ (s % 32))/\(a.length<=s / 32->n / 2 ^ s=0):=by
 have hP:=jb aH (s / 32)
 have hM:=two_pos (s % 32)
 rw [ya s]
 constructor
 ·intro h
  have hd:=gV WW a (s / 32) Q2
  rw [ha.2.2] at hd
  have l0:=bN aH (ha.1.take (s / 32))
  have l1:=fW aH (ha.1.take (s / 32))
  rw [List.length_take,Nat.min_eq_left Q2] at l1
  rw [hd,<- Int.ediv_ediv_of_nonneg Q2,Int.add_mul_ediv_left _ _ Q2,Int.ediv_eq_zero_of_lt l0 l1,Int.zero_add]
 intro h
 have h1:=ha.lt aH
 have h2:=fj (B:=WW) (by decide) h
 refine Int.ediv_eq_zero_of_lt (ha.fT aH) ?_
 have h3:WW ^ (s / 32)*1<=WW ^ (s / 32)*2 ^ (s % 32):=Int.mul_le_mul_of_nonneg_left Q2 Q2
 omega
theorem qP {a:List Int} {n:Int} (s:Nat) (hn:a.length<68719476736) (hs:s<68719476736) (ha:Can WW a n):∃ r,Ev (fun k=>eW.f k a (s:Int)) r/\Can WW r (n / 2 ^ s)/\r.length<=a.length:=by
 obtain ⟨c1,c2⟩:=LB ha s
 have e1:wrap64 (Int.tdiv (s:Int) 32)=((s / 32:Nat):Int):=by rw [fB Q2,cy Q2 Q2];omega
 have e2:IntKind.u64.wrap (Int.tmod (s:Int) 32)=((s % 32:Nat):Int):=by rw [fG Q2,u64 Q2 Q2];omega
 unfold eW.f
 rw [e1,e2]
 clear e1 e2
 by_cases c:a.length<=s / 32
 ·refine ⟨[],bC Q2 (aX _),?_,Q3⟩
  rw [c2 c]
  exact Can.zero _
 obtain ⟨r,r1,r2,r3⟩:=Eg (a:=a) (w:=s / 32) (p:=s % 32) (m:=a.length-s / 32) hn Q2 Q2 ha.1 (a.length-s / 32) 0 (List.replicate (a.length-s / 32) 0) Q2 Q2 Q3 (by rw [List.take_zero];exact Dg.nil _)
  (by rw [List.take_zero,vl,Int.pow_zero,Nat.zero_add];omega)
 rw [<- c1 Q2] at r2
 refine ⟨r,?_,r2,Q2⟩
 rw [show (a.length:Int)-((s / 32:Nat):Int)=((a.length-s / 32:Nat):Int) by omega,cy (x:=((a.length-s / 32:Nat):Int)) Q2 Q2,Int.toNat_natCast]
 refine eD Q2 (bC Q2 (bC Q2 (jY rfl ?_)))
 rw [List.length_replicate]
 exact r1
theorem H5 {o c b g x:Int} (ho:0<=o/\o<4294967296) (hc:0<=c/\c<4294967296) (hb:0<=b/\b<=1) (hg:0<=g/\g<4294967296) (hx:0<=x/\x<4294967296) :
 ∃ v c' b',IntKind.u64.wrap (c+IntKind.u64.wrap (g*IntKind.u64.wrap x)) / 4294967296=c'/\IntKind.u64.wrap (IntKind.u64.wrap (IntKind.u64.wrap o-IntKind.u64.wrap (c+IntKind.u64.wrap (g*IntKind.u64.wrap x)) % 4294967296)-b) % 4294967296=v/\IntKind.u64.wrap (IntKind.u64.wrap (IntKind.u64.wrap o-IntKind.u64.wrap (c+IntKind.u64.wrap (g*IntKind.u64.wrap x)) % 4294967296)-b) / 9223372036854775808=b'/\v-4294967296*(c'+b')=o-(c+b)-g*x/\0<=v/\v<4294967296/\0<=c'/\c'<4294967296/\0<=b'/\b'<=1:=by
 have hm:=vY hg hx
 rw [u64 (x:=x) Q2 Q2,u64 (x:=g*x) Q2 Q2,u64 (x:=c+g*x) Q2 Q2,u64 (x:=o) Q2 Q2,IntKind.wrap_u64,IntKind.wrap_u64]
 generalize g*x=t at *
 refine ⟨_,_,_,rfl,rfl,rfl,?_,?_,?_,?_,?_,?_,?_⟩<;>omega
theorem H6 {o c b:Int} (ho:0<=o/\o<4294967296) (hc:0<=c/\c<4294967296) (hb:0<=b/\b<=1) :
 ∃ v f,IntKind.u64.wrap (IntKind.u64.wrap (IntKind.u64.wrap o-c)-b) % 4294967296=v/\(IntKind.u64.wrap (IntKind.u64.wrap (IntKind.u64.wrap o-c)-b) / 9223372036854775808==1)=f/\0<=v/\v<4294967296/\v=o-(c+b)+(if f=true then 4294967296 else 0):=by
 rw [u64 (x:=o) Q2 Q2,IntKind.wrap_u64,IntKind.wrap_u64]
 refine ⟨_,_,rfl,rfl,Q2,Q2,?_⟩
 simp only [beq_iff_eq]
 split<;>omega
theorem alg_s {vo c b P vu g vv v c' b' o x W:Int} (h:vo-(c+b)*P=vu-g*vv) (h2:v-W*(c'+b')=o-(c+b)-g*x):(vo+v*P)-(c'+b')*(W*P)=(vu+o*P)-g*(vv+x*P):=by grind
theorem alg_s2 {vo c b P vu g vv v o e W:Int} (h:vo-(c+b)*P=vu-g*vv) (h2:v=o-(c+b)+e):vo+v*P=(vu+o*P)-g*vv+e*P:=by grind
theorem uK {u v:List Int} {g:Int} (hl:u.length=v.length+1) (hn:v.length<68719476736) (hu:Dg WW u) (hv:Dg WW v) (hg:0<=g/\g<4294967296) (d:Nat):∀ (i:Nat) (o:List Int) (c b:Int),v.length-i=d->i<=v.length->o.length=u.length->Dg WW (o.take i)->o.drop i=u.drop i->0<=c->c<4294967296->0<=b->b<=1->vl WW (o.take i)-(c+b)*WW ^ i=vl WW (u.take i)-g*vl WW (v.take i) ->
 ∃ f r,Ev (fun k=>cm.l0 k o v g c b v (v.length:Int) (i:Int)) (f,r)/\Dg WW r/\r.length=u.length/\vl WW r=vl WW u-g*vl WW v+(if f=true then WW ^ u.length else 0):=by
 induction d with
 | zero =>
  intro i o c b h1 h2 h3 h4 h5 h6 h7 h8 h9 h10
  have ei:i=v.length:=Q2
  subst ei
  have ho:=dO hu (v.length:Int) Q2 Q2
  rw [cS] at ho
  obtain ⟨z,f,e1,e2,z0,z1,z2⟩:=H6 ho ⟨h6,h7⟩ ⟨h8,h9⟩
  have er:=kB u o v.length h5 Q2 h3
  refine ⟨f,o.set v.length z,?_,?_,by simpa using h3,?_⟩
  ·refine Ev.step (fun k=>by rw [cm.l0]) ?_
   refine eD Q2 (bC Q2 (bC Q2 ?_))
   rw [er,e1,e2,Int.toNat_natCast]
   exact aX _
  ·have:=Dg.take_set (l:=o) (i:=v.length) (v:=z) Q2 h4 z0 (by rw [cS];exact z1)
   rw [List.take_of_length_le (by simp;omega)] at this
   exact this
  have e3:=gM WW o v.length z Q2
  rw [List.take_of_length_le (by simp;omega)] at e3
  have e4:=dH WW u v.length Q2
  rw [List.take_of_length_le Q2] at e4
  rw [List.take_length] at h10
  rw [e3,e4,alg_s2 (W:=WW) h10 z2,hl,Int.pow_succ,Int.mul_comm (WW ^ v.length) WW]
  congr 1
  cases f
  ·simp
  simp
 | succ d ih =>
  intro i o c b h1 h2 h3 h4 h5 h6 h7 h8 h9 h10
  have ho:=dO hu (i:Int) Q2 Q2
  have hx:=dO hv (i:Int) Q2 Q2
  rw [cS] at ho hx
  obtain ⟨z,c',b',e1,e2,e3,e4,z0,z1,c0,c1,b0,b1⟩:=H5 ho ⟨h6,h7⟩ ⟨h8,h9⟩ hg hx
  have er:=kB u o i h5 Q2 h3
  obtain ⟨f,r,r1,r2⟩:=ih (i+1) (o.set i z) c' b' Q2 Q2 (by simpa using h3) (Dg.take_set Q2 h4 z0 (by rw [cS];exact z1))
   (by rw [gU];exact drop_tail u o i h5) c0 c1 b0 b1
   (by
    rw [gM _ _ _ _ Q2,dH WW u i Q2,dH WW v i Q2,Int.pow_succ,Int.mul_comm (WW ^ i) WW]
    exact alg_s h10 e4)
  refine ⟨f,r,?_,r2⟩
  refine Ev.step (fun k=>by rw [cm.l0]) ?_
  rw [er,e1,e2,e3,fM (i:=i) Q2,Int.toNat_natCast]
  clear e1 e2 e3
  exact bC Q2 (bC Q2 (bC Q2 (bC Q2 r1)))
theorem uJ {u v:List Int} {g:Int} (hl:u.length=v.length+1) (hn:v.length<68719476736) (hu:Dg WW u) (hv:Dg WW v) (hg:0<=g/\g<4294967296) :
 ∃ f r,Ev (fun k=>cm.f k u v g) (f,r)/\Dg WW r/\r.length=u.length/\vl WW r=vl WW u-g*vl WW v+(if f=true then WW ^ u.length else 0):=by
 obtain ⟨f,r,r1,r2⟩:=uK hl hn hu hv hg v.length 0 u 0 0 Q2 Q2 rfl (by rw [List.take_zero];exact Dg.nil _) rfl Q2 Q2 Q2 Q2 (by simp [vl])
 exact ⟨f,r,by unfold cm.f;exact r1,r2⟩
theorem alg_r {vo c P vu vv v c' o x W:Int} (h:vo+c*P=vu+vv) (h2:v+W*c'=c+(o+x)):(vo+v*P)+c'*(W*P)=(vu+o*P)+(vv+x*P):=by grind
theorem alg_r2 {vo c P vu vv v o e W:Int} (h:vo+c*P=vu+vv) (h2:v+W*e=o+c):vo+v*P+e*(W*P)=(vu+o*P)+vv:=by grind
theorem we {u v:List Int} (hl:u.length=v.length+1) (hn:v.length<68719476736) (hu:Dg WW u) (hv:Dg WW v) (d:Nat):∀ (i:Nat) (o:List Int) (c:Int),v.length-i=d->i<=v.length->o.length=u.length->Dg WW (o.take i)->o.drop i=u.drop i->0<=c->c<=1->vl WW (o.take i)+c*WW ^ i=vl WW (u.take i)+vl WW (v.take i) ->
 ∃ r e,Ev (fun k=>cB.l0 k o v c v (v.length:Int) (i:Int)) r/\Dg WW r/\r.length=u.length/\vl WW r+e*WW ^ u.length=vl WW u+vl WW v/\0<=e:=by
 induction d with
 | zero =>
  intro i o c h1 h2 h3 h4 h5 h6 h7 h8
  have ei:i=v.length:=Q2
  subst ei
  have ho:=dO hu (v.length:Int) Q2 Q2
  rw [cS] at ho
  have er:=kB u o v.length h5 Q2 h3
  have ev:(rd u (v.length:Int)+c) % 4294967296+WW*((rd u (v.length:Int)+c) / 4294967296)=rd u (v.length:Int)+c:=by rw [cS];exact Int.emod_add_mul_ediv _ _
  refine ⟨o.set v.length ((rd u (v.length:Int)+c) % 4294967296),(rd u (v.length:Int)+c) / 4294967296,?_,?_,by simpa using h3,?_,Q2⟩
  ·have ec:c % 4294967296=c:=by omega
   refine Ev.step (fun k=>by rw [cB.l0]) ?_
   refine eD Q2 (bC Q2 (bC Q2 ?_))
   rw [er,ec,Int.toNat_natCast]
   exact aX _
  ·have:=Dg.take_set (l:=o) (i:=v.length) (v:=(rd u (v.length:Int)+c) % 4294967296) Q2 h4 Q2 (by rw [cS];omega)
   rw [List.take_of_length_le (by simp;omega)] at this
   exact this
  have e3:=gM WW o v.length ((rd u (v.length:Int)+c) % 4294967296) Q2
  rw [List.take_of_length_le (by simp;omega)] at e3
  have e4:=dH WW u v.length Q2
  rw [List.take_of_length_le Q2] at e4
  rw [List.take_length] at h8
  rw [e3,e4,hl,Int.pow_succ,Int.mul_comm (WW ^ v.length) WW]
  exact alg_r2 h8 ev
 | succ d ih =>
  intro i o c h1 h2 h3 h4 h5 h6 h7 h8
  have ho:=dO hu (i:Int) Q2 Q2
  have hx:=dO hv (i:Int) Q2 Q2
  rw [cS] at ho hx
  have er:=kB u o i h5 Q2 h3
  have ev:(c+(rd u (i:Int)+rd v (i:Int))) % 4294967296+WW*((c+(rd u (i:Int)+rd v (i:Int))) / 4294967296)=c+(rd u (i:Int)+rd v (i:Int)):=by rw [cS];exact Int.emod_add_mul_ediv _ _
  obtain ⟨r,e,r1,r2⟩:=ih (i+1) (o.set i ((c+(rd u (i:Int)+rd v (i:Int))) % 4294967296)) ((c+(rd u (i:Int)+rd v (i:Int))) / 4294967296) Q2 Q2 (by simpa using h3) (Dg.take_set Q2 h4 Q2 (by rw [cS];omega))
   (by rw [gU];exact drop_tail u o i h5) Q2 Q2
   (by
    rw [gM _ _ _ _ Q2,dH WW u i Q2,dH WW v i Q2,Int.pow_succ,Int.mul_comm (WW ^ i) WW]
    exact alg_r h8 ev)
  refine ⟨r,e,?_,r2⟩
  refine Ev.step (fun k=>by rw [cB.l0]) ?_
  rw [er,u64 (x:=rd u (i:Int)) Q2 Q2,u64 (x:=rd v (i:Int)) Q2 Q2,u64 (x:=rd u (i:Int)+rd v (i:Int)) Q2 Q2,u64 (x:=c+(rd u (i:Int)+rd v (i:Int))) Q2 Q2,fM (i:=i) Q2,Int.toNat_natCast]
  exact bC Q2 (bC Q2 (bC Q2 (bC Q2 r1)))
theorem wc {u v:List Int} (hl:u.length=v.length+1) (hn:v.length<68719476736) (hu:Dg WW u) (hv:Dg WW v) :
 ∃ r e,Ev (fun k=>cB.f k u v) r/\Dg WW r/\r.length=u.length/\vl WW r+e*WW ^ u.length=vl WW u+vl WW v/\0<=e:=by
 obtain ⟨r,e,r1,r2⟩:=we hl hn hu hv v.length 0 u 0 Q2 Q2 rfl (by rw [List.take_zero];exact Dg.nil _) rfl Q2 Q2 (by simp [vl])
 exact ⟨r,e,by unfold cB.f;exact r1,r2⟩
theorem kd_gt {X M P top next x0 high g rest qd W:Int} (hM:(top*W+next)*P<=M) (hX:X<(high*W+x0+1)*P) (hP:0<P) (hq:qd*M<=X) (h:g*top+rest=high) (hd:0<=g) (hM0:0<=M) (hne:g*next>rest*W+x0):qd<g:=by
 rcases Int.lt_or_le qd g with h1 | h1
 ·exact h1
 exfalso
 have a1:g*M<=qd*M:=Int.mul_le_mul_of_nonneg_right h1 hM0
 have a2:g*((top*W+next)*P)<=g*M:=Int.mul_le_mul_of_nonneg_left hM hd
 have a3:g*((top*W+next)*P)=(g*(top*W+next))*P:=by grind
 have a4:(g*(top*W+next))*P<(high*W+x0+1)*P:=Q2
 have a5:=Int.lt_of_mul_lt_mul_right a4 (Int.le_of_lt hP)
 have a6:g*(top*W+next)=(high-rest)*W+g*next:=by rw [<- h];grind
 have a7:(high-rest)*W=high*W-rest*W:=by grind
 omega
theorem kd_le {X M P top next x0 high g rest qd W:Int} (hM:M<=(top*W+next+1)*P) (hM2:W*P<=M) (hX:(high*W+x0)*P<=X) (hP:0<P) (hq:X<(qd+1)*M) (h:g*top+rest=high) (hd:0<=g) (hg:g<W) (hE:g*next<=rest*W+x0):g<=qd+1:=by
 rcases Int.lt_or_le (qd+1) g with h1 | h1
 ·exfalso
  have a:0<=M:=by
   have:0<=W*P:=Int.mul_nonneg Q2 Q2
   omega
  have a1:(qd+1)*M<=(g-1)*M:=Int.mul_le_mul_of_nonneg_right Q2 a
  have a2:g*M<=g*((top*W+next+1)*P):=Int.mul_le_mul_of_nonneg_left hM hd
  have a3:g*((top*W+next+1)*P)=(g*(top*W+next))*P+g*P:=by grind
  have a6:g*(top*W+next)=(high-rest)*W+g*next:=by rw [<- h];grind
  have a7:(high-rest)*W=high*W-rest*W:=by grind
  have a8:(g*(top*W+next))*P<=(high*W+x0)*P:=Int.mul_le_mul_of_nonneg_right Q2 Q2
  have a9:g*P<=W*P:=Int.mul_le_mul_of_nonneg_right Q2 Q2
  have b:(g-1)*M=g*M-M:=by grind
  omega
 exact h1
theorem JA {q v u:List Int} {s:Int} {nn j:Nat} {X M P top next x0 high qd:Int} (hn:j+nn<68719476736) (hnn:2<=nn) (hju:j+nn<u.length) (hx0:rd u ((j+nn-2:Nat):Int)=x0)
 (t0:0<top) (t1:top<4294967296) (n0:0<=next) (n1:next<4294967296) (b0:0<=x0) (b1:x0<4294967296)
 (hMl:(top*WW+next)*P<=M) (hMu:M<=(top*WW+next+1)*P) (hM2:WW*P<=M) (hXl:(high*WW+x0)*P<=X) (hXu:X<(high*WW+x0+1)*P) (hP:0<P) (hq:qd*M<=X) (hq2:X<(qd+1)*M) (hqW:qd<4294967296) (hq0:0<=qd) (c:Nat) :
 ∀ g rest:Int,(g-qd).toNat=c->g*top+rest=high->0<=rest->rest<4294967296->qd<=g->g<=4294967297->(g=4294967297->rest+top<4294967296) ->
 ∃ g',qd<=g'/\g'<=qd+1/\g'<4294967296/\∀ R,Ev (fun k=>aI.j3 k q s v u (nn:Int) top next (j:Int) g') R->Ev (fun k=>aI.l1 k q s v u (nn:Int) top next (j:Int) g rest) R:=by
 have b:0<=M:=by
  have:0<=WW*P:=Int.mul_nonneg (by decide) Q2
  omega
 induction c with
 | zero =>
  intro g rest h1 h2 h3 h4 h5 h6 h7
  have eg:g=qd:=Q2
  subst eg
  have hE:¬ (g*next>rest*WW+x0):=fun hne=>by
   have:=kd_gt hMl hXu hP hq h2 Q2 b hne
   omega
  refine ⟨g,Q2,Q2,hqW,fun R hR=>?_⟩
  have hp:=vY (x:=g) (y:=next) ⟨Q2,hqW⟩ ⟨n0,n1⟩
  refine Ev.step (fun k=>by rw [aI.l1]) ?_
  rw [cS] at hE
  rw [show (j:Int)+(nn:Int)=((j+nn:Nat):Int) by omega,cy (x:=((j+nn:Nat):Int)) Q2 Q2,show ((j+nn:Nat):Int)-2=((j+nn-2:Nat):Int) by omega,cy (x:=((j+nn-2:Nat):Int)) Q2 Q2,hx0,u64 (x:=g*next) Q2 Q2,u64 (x:=rest*4294967296) Q2 Q2,u64 (x:=x0) Q2 Q2,D4 ⟨h3,h4⟩ ⟨b0,b1⟩,decide_eq_false hE]
  refine eD Q2 (bC Q2 (bC Q2 ?_))
  refine Ev.step (fun k=>by rw [aI.j2]) ?_
  exact eD Q3 hR
 | succ c ih =>
  intro g rest h1 h2 h3 h4 h5 h6 h7
  have f:qd<g:=Q2
  have a:(g>=4294967296∨g*next>rest*WW+x0)->∃ g',qd<=g'/\g'<=qd+1/\g'<4294967296/\∀ R,Ev (fun k=>aI.j3 k q s v u (nn:Int) top next (j:Int) g') R->Ev (fun k=>aI.j2 k q s v u (nn:Int) top next (j:Int) g rest true) R:=by
   intro hc
   by_cases c2:rest+top>=4294967296
   ·have e:(g-1)*top+(rest+top)=high:=by rw [<- h2];grind
    have hp:=vY (x:=g-1) (y:=next) ⟨Q2,Q2⟩ ⟨n0,n1⟩
    have hE:(g-1)*next<=(rest+top)*WW+x0:=by rw [cS];omega
    refine ⟨g-1,Q2,kd_le hMu hM2 hXl hP hq2 e Q2 (by rw [cS];omega) hE,Q2,fun R hR=>?_⟩
    refine Ev.step (fun k=>by rw [aI.j2]) ?_
    rw [u64 (x:=rest+top) Q2 Q2,u64 (x:=g-1) Q2 Q2]
    exact bC rfl (bC c2 hR)
   have e:(g-1)*top+(rest+top)=high:=by rw [<- h2];grind
   obtain ⟨g',g1,g2,g3,g4⟩:=ih (g-1) (rest+top) Q2 e Q2 Q2 Q2 Q2 Q2
   refine ⟨g',g1,g2,g3,fun R hR=>?_⟩
   refine Ev.step (fun k=>by rw [aI.j2]) ?_
   rw [u64 (x:=rest+top) Q2 Q2,u64 (x:=g-1) Q2 Q2]
   exact bC rfl (eD c2 (g4 R hR))
  by_cases c1:g>=4294967296
  ·obtain ⟨g',g1,g2,g3,g4⟩:=a (.inl c1)
   refine ⟨g',g1,g2,g3,fun R hR=>?_⟩
   refine Ev.step (fun k=>by rw [aI.l1]) ?_
   exact bC c1 (g4 R hR)
  have hp:=vY (x:=g) (y:=next) ⟨Q2,Q2⟩ ⟨n0,n1⟩
  by_cases c2:g*next>rest*WW+x0
  ·obtain ⟨g',g1,g2,g3,g4⟩:=a (.inr c2)
   refine ⟨g',g1,g2,g3,fun R hR=>?_⟩
   refine Ev.step (fun k=>by rw [aI.l1]) ?_
   rw [cS] at c2
   rw [show (j:Int)+(nn:Int)=((j+nn:Nat):Int) by omega,cy (x:=((j+nn:Nat):Int)) Q2 Q2,show ((j+nn:Nat):Int)-2=((j+nn-2:Nat):Int) by omega,cy (x:=((j+nn-2:Nat):Int)) Q2 Q2,hx0,u64 (x:=g*next) Q2 Q2,u64 (x:=rest*4294967296) Q2 Q2,u64 (x:=x0) Q2 Q2,D4 ⟨h3,h4⟩ ⟨b0,b1⟩,decide_eq_true c2]
   exact eD Q2 (bC Q2 (bC Q2 (g4 R hR)))
  have d:=kd_le hMu hM2 hXl hP hq2 h2 Q2 (by rw [cS];omega) Q2
  refine ⟨g,Q2,d,Q2,fun R hR=>?_⟩
  refine Ev.step (fun k=>by rw [aI.l1]) ?_
  rw [cS] at c2
  rw [show (j:Int)+(nn:Int)=((j+nn:Nat):Int) by omega,cy (x:=((j+nn:Nat):Int)) Q2 Q2,show ((j+nn:Nat):Int)-2=((j+nn-2:Nat):Int) by omega,cy (x:=((j+nn-2:Nat):Int)) Q2 Q2,hx0,u64 (x:=g*next) Q2 Q2,u64 (x:=rest*4294967296) Q2 Q2,u64 (x:=x0) Q2 Q2,D4 ⟨h3,h4⟩ ⟨b0,b1⟩,decide_eq_false c2]
  refine eD Q2 (bC Q2 (bC Q2 ?_))
  refine Ev.step (fun k=>by rw [aI.j2]) ?_
  exact eD Q3 hR
theorem Kz (u:List Int) (j n:Nat) (h:j+n<=u.length):((u.take (j+n)).drop j).length=n:=by
 rw [List.length_drop,List.length_take,Nat.min_eq_left h];omega
theorem E6 (u r:List Int) (j n:Nat) (h:j+n<=u.length) (hr:r.length=n) :
 ((u.take j++r++u.drop (j+n)).take (j+n)).drop j=r/\(u.take j++r++u.drop (j+n)).take j=u.take j/\(u.take j++r++u.drop (j+n)).drop (j+n)=u.drop (j+n)/\(u.take j++r++u.drop (j+n)).drop j=r++u.drop (j+n)/\(u.take j++r++u.drop (j+n)).length=u.length:=by
 have l1:(u.take j).length=j:=by rw [List.length_take,Nat.min_eq_left Q2]
 have l2:(u.take j++r).length=j+n:=by rw [List.length_append,l1,hr]
 refine ⟨?_,?_,?_,?_,?_⟩
 ·rw [List.take_left' l2,List.drop_left' l1]
 ·rw [List.append_assoc,List.take_left' l1]
 ·rw [List.drop_left' l2]
 ·rw [List.append_assoc,List.drop_left' l1]
 rw [List.length_append,l2,List.length_drop];omega
theorem Ik (u:List Int) (j n:Nat) (h:j+n<=u.length):vl WW (u.drop j)=vl WW ((u.take (j+n)).drop j)+WW ^ n*vl WW (u.drop (j+n)):=by
 have e:=gV WW (u.drop j) n (by rw [List.length_drop];omega)
 rw [List.drop_drop] at e
 rw [e,List.drop_take,Nat.add_sub_cancel_left]
theorem JB {q v u:List Int} {s top next:Int} {nn j:Nat} {X M qd g:Int} (hn:j+nn<68719476736) (hv:v.length=nn) (dv:Dg WW v) (eM:vl WW v=M) (hju:j+nn+1<=u.length) (hjq:j<q.length) (du:Dg WW u)
 (eX:vl WW (u.drop j)=X) (hz:vl WW (u.drop (j+(nn+1)))=0) (hq:qd*M<=X) (hq2:X<(qd+1)*M) (hqW:qd<4294967296) (hq0:0<=qd) (g1:qd<=g) (g2:g<=qd+1) (g3:g<4294967296) :
 ∃ u2,u2.length=u.length/\Dg WW u2/\u2.take j=u.take j/\vl WW (u2.drop j)=X-qd*M/\∀ R,Ev (fun k=>aI.l0 k (q.set j qd) s v u2 (nn:Int) top next ((j:Int)-1)) R->Ev (fun k=>aI.j3 k q s v u (nn:Int) top next (j:Int) g) R:=by
 have sl:=Kz u j (nn+1) hju
 have sv:=Ik u j (nn+1) hju
 rw [hz,Int.mul_zero,Int.add_zero,eX] at sv
 have ds:Dg WW ((u.take (j+(nn+1))).drop j):=(du.take _).drop _
 obtain ⟨f,r,r1,r2,r3,r4⟩:=uJ (u:=(u.take (j+(nn+1))).drop j) (v:=v) (g:=g) Q2 Q2 ds dv ⟨Q2,g3⟩
 rw [sl] at r3 r4
 rw [<- sv,eM] at r4
 have b0:=bN aH r2
 have b1:=fW aH r2
 rw [r3] at b1
 obtain ⟨p1,p2,p3,p4,p5⟩:=E6 u r j (nn+1) hju r3
 have h:((((j+nn:Nat):Int)+1)).toNat=j+(nn+1):=Q2
 have a:Ev (fun k=>cY.f k u (j:Int) (((j+nn:Nat):Int)+1) v g) (f,u.take j++r++u.drop (j+(nn+1))):=by
  unfold cY.f
  rw [h,Int.toNat_natCast]
  exact Ev.bind r1 (aX _)
 have d:qd % 4294967296=qd:=Q2
 have l:(qd+1)*M=qd*M+M:=by grind
 have b:∀ z:List Int,Dg WW z->Dg WW (u.take j++z++u.drop (j+(nn+1))):=fun z hz=>((du.take _).append hz).append (du.drop _)
 cases f
 ·have eg:g=qd:=by
   rcases Int.lt_or_le qd g with c | c
   ·exfalso
    have:g=qd+1:=Q2
    subst this
    simp only [Bool.false_eq_true,if_false] at r4
    omega
   omega
  subst eg
  simp only [Bool.false_eq_true,if_false,Int.add_zero] at r4
  refine ⟨_,p5,b r r2,p2,?_,fun R hR=>?_⟩
  ·rw [p4,iS,hz,Int.mul_zero,Int.add_zero,r4]
  refine Ev.step (fun k=>by rw [aI.j3]) ?_
  rw [show (j:Int)+(nn:Int)=((j+nn:Nat):Int) by omega,cy (x:=((j+nn:Nat):Int)) Q2 Q2,cy (x:=((j+nn:Nat):Int)+1) Q2 Q2,cy (x:=(j:Int)-1) Q2 Q2,d,Int.toNat_natCast]
  exact bC Q2 (bC Q2 (bC Q2 (Ev.bind a (eD Q3 (bC Q2 hR)))))
 simp only [if_true] at r4
 have eg:g=qd+1:=by
  rcases Int.lt_or_le qd g with c | c
  ·omega
  exfalso
  have:g=qd:=Q2
  subst this
  omega
 subst eg
 rw [l] at r4
 obtain ⟨z,e,z1,z2,z3,z4,z5⟩:=wc (u:=r) (v:=v) Q2 Q2 r2 dv
 rw [r3,eM,r4] at z4
 rw [r3] at z3
 have c0:=bN aH z2
 have c1:=fW aH z2
 rw [z3] at c1
 have n:M<WW ^ (nn+1):=by
  have h1:=fW aH dv
  have h2:=fj (B:=WW) (by decide) (show nn<=nn+1 by omega)
  rw [hv,eM] at h1
  omega
 have m:vl WW z=X-qd*M:=by
  generalize WW ^ (nn+1)=Q at *
  have he:e=1:=by
   rcases Int.lt_or_le e 1 with c | c
   ·have:e=0:=by omega
    subst this
    omega
   rcases Int.lt_or_le 1 e with c' | c'
   ·have:2*Q<=e*Q:=Int.mul_le_mul_of_nonneg_right Q2 Q2
    omega
   omega
  subst he
  omega
 obtain ⟨t1,t2,t3,t4,t5⟩:=E6 u z j (nn+1) hju z3
 have i:Ev (fun k=>dL.f k (u.take j++r++u.drop (j+(nn+1))) (j:Int) (((j+nn:Nat):Int)+1) v) (u.take j++z++u.drop (j+(nn+1))):=by
  unfold dL.f
  rw [h,Int.toNat_natCast,p1,p2,p3]
  exact Ev.bind z1 (aX _)
 refine ⟨_,t5,b z z2,t2,?_,fun R hR=>?_⟩
 ·rw [t4,iS,hz,Int.mul_zero,Int.add_zero,m]
 refine Ev.step (fun k=>by rw [aI.j3]) ?_
 rw [show (j:Int)+(nn:Int)=((j+nn:Nat):Int) by omega,cy (x:=((j+nn:Nat):Int)) Q2 Q2,cy (x:=((j+nn:Nat):Int)+1) Q2 Q2,cy (x:=(j:Int)-1) Q2 Q2,show qd+1-1=qd by omega,u64 (x:=qd) Q2 Q2,d,Int.toNat_natCast]
 exact bC Q2 (bC Q2 (bC Q2 (Ev.bind a (bC rfl (Ev.bind i (bC Q2 hR))))))
theorem three {u:List Int} (du:Dg WW u) (j nn:Nat) (hnn:2<=nn) (hju:j+nn+1<=u.length) (hz:vl WW (u.drop (j+(nn+1)))=0) :
 ∃ low,0<=low/\low<WW ^ (nn-2)/\vl WW (u.drop j)=low+(((rd u ((j+nn:Nat):Int))*WW+rd u ((j+nn-1:Nat):Int))*WW+rd u ((j+nn-2:Nat):Int))*WW ^ (nn-2):=by
 have e:=gV WW (u.drop j) (nn-2) (by rw [List.length_drop];omega)
 rw [List.drop_drop] at e
 have d1:Dg WW ((u.drop j).take (nn-2)):=(du.drop _).take _
 have l1:=fW aH d1
 rw [List.length_take,List.length_drop,Nat.min_eq_left Q2] at l1
 refine ⟨_,bN aH d1,l1,?_⟩
 rw [e,fC u (j+(nn-2)) Q2,vl,fC u (j+(nn-2)+1) Q2,vl,fC u (j+(nn-2)+1+1) Q2,vl]
 rw [show j+(nn-2)+1+1+1=j+(nn+1) by omega,hz,show j+(nn-2)+1+1=j+nn by omega,show j+(nn-2)+1=j+nn-1 by omega,show j+(nn-2)=j+nn-2 by omega]
 grind
theorem two {v:List Int} (dv:Dg WW v) (nn:Nat) (hnn:2<=nn) (hv:v.length=nn) :
 ∃ low,0<=low/\low<WW ^ (nn-2)/\vl WW v=low+(rd v ((nn-1:Nat):Int)*WW+rd v ((nn-2:Nat):Int))*WW ^ (nn-2):=by
 have e:=gV WW v (nn-2) Q2
 have d1:Dg WW (v.take (nn-2)):=dv.take _
 have l1:=fW aH d1
 rw [List.length_take,Nat.min_eq_left Q2] at l1
 refine ⟨_,bN aH d1,l1,?_⟩
 rw [e,fC v (nn-2) Q2,vl,fC v (nn-2+1) Q2,vl]
 rw [show nn-2+1+1=nn by omega,List.drop_eq_nil_of_le Q2,vl,show nn-2+1=nn-1 by omega]
 grind
theorem LM {ut Pj X M W qd vq N vu:Int} (h1:vu=ut+Pj*X) (h2:vu+M*((Pj*W)*vq)=N):(ut+Pj*(X-qd*M))+M*(Pj*(qd+W*vq))=N:=by grind
theorem qR {a b P:Int} (h:a*P<b*P) (hP:0<P):a<b:=Int.lt_of_mul_lt_mul_right h (Int.le_of_lt hP)
theorem dm_l0 {v:List Int} {s nn:Nat} {M top next N:Int} (hs:s<32) (hn2:2<=nn) (hv:v.length=nn) (dv:Dg WW v) (eM:vl WW v=M) (et:rd v ((nn-1:Nat):Int)=top) (en:rd v ((nn-2:Nat):Int)=next) (ht:2147483648<=top) (d:Nat) :
 ∀ (i:Nat) (q u:List Int),i=d->i+nn<=u.length->u.length<68719476736->q.length=u.length-nn->Dg WW u->Dg WW (q.drop i)->vl WW (u.drop i)<M->vl WW u+M*(WW ^ i*vl WW (q.drop i))=N ->
 ∃ q' r',Ev (fun k=>aI.l0 k q (s:Int) v u (nn:Int) top next ((i:Int)-1)) (q',r')/\Can WW q' (N / M)/\Can WW r' (N % M / 2 ^ s):=by
 have w0:(0:Int)<WW ^ (nn-2):=jb aH _
 have bt:=dO dv ((nn-1:Nat):Int) Q2 Q2
 have bn:=dO dv ((nn-2:Nat):Int) Q2 Q2
 rw [et,cS] at bt
 rw [en,cS] at bn
 obtain ⟨ml,Q,R,C⟩:=two dv nn hn2 hv
 rw [et,en,eM] at C
 generalize hP:WW ^ (nn-2)=P at *
 have n:(top*WW+next)*P<=M:=Q2
 have p:M<(top*WW+next+1)*P:=by rw [Int.add_mul _ 1 P,Int.one_mul];omega
 have w:WW*P<=M:=by
  have:WW*P<=(top*WW+next)*P:=Int.mul_le_mul_of_nonneg_right (by rw [cS];omega) Q2
  omega
 have b:0<M:=by
  have:0<WW*P:=Int.mul_pos aH w0
  omega
 induction d with
 | zero =>
  rintro i q u rfl h1 h2 h3 h4 h5 h6 h7
  rw [List.drop_zero] at h5 h6 h7
  rw [Int.pow_zero,Int.one_mul] at h7
  have b0:=bN aH h4
  have e1:N / M=vl WW q:=by rw [<- h7,Int.add_mul_ediv_left _ _ Q2,Int.ediv_eq_zero_of_lt b0 h6,Int.zero_add]
  have e2:N % M=vl WW u:=by rw [<- h7,Int.add_mul_emod_self_left,Int.emod_eq_of_lt b0 h6]
  obtain ⟨q',q1,q2,q3⟩:=fH (l:=q) Q2 h5
  obtain ⟨x,x1,x2,x3⟩:=fH (l:=u) Q2 h4
  obtain ⟨y,y1,y2,y3⟩:=qP s Q2 Q2 x2
  refine ⟨q',y,?_,by rw [e1];exact q2,by rw [e2];exact y2⟩
  refine Ev.step (fun k=>by rw [aI.l0]) ?_
  exact eD Q2 (Ev.bind q1 (Ev.bind x1 (Ev.bind y1 (aX _))))
 | succ d ih =>
  rintro i q u rfl h1 h2 h3 h4 h5 h6 h7
  have u0:=dO h4 (d:Int) Q2 Q2
  have eX:vl WW (u.drop d)=rd u (d:Int)+WW*vl WW (u.drop (d+1)):=by rw [fC u d Q2,vl]
  have nx:=bN aH (h4.drop (d+1))
  have A:vl WW (u.drop d)<WW*M:=by
   have:WW*(vl WW (u.drop (d+1))+1)<=WW*M:=Int.mul_le_mul_of_nonneg_left Q2 (by decide)
   rw [Int.mul_add,Int.mul_one] at this
   omega
  have r:=bN aH (h4.drop d)
  have t:M<WW ^ nn:=by
   have:=fW aH dv
   rw [hv,eM] at this
   exact this
  have hz:vl WW (u.drop (d+(nn+1)))=0:=by
   have sv:=Ik u d (nn+1) Q2
   have g0:=bN aH (h4.drop (d+(nn+1)))
   have g1:=bN aH ((h4.take (d+(nn+1))).drop d)
   rcases Int.lt_or_le 0 (vl WW (u.drop (d+(nn+1)))) with c | c
   ·exfalso
    have hp:(0:Int)<WW ^ (nn+1):=jb aH _
    have a1:WW ^ (nn+1)*1<=WW ^ (nn+1)*vl WW (u.drop (d+(nn+1))):=Int.mul_le_mul_of_nonneg_left Q2 Q2
    have a2:WW*M<WW*WW ^ nn:=Int.mul_lt_mul_of_pos_left t aH
    rw [Int.pow_succ,Int.mul_comm (WW ^ nn) WW] at a1 sv
    omega
   omega
  obtain ⟨lo,J,H,eZ⟩:=three h4 d nn hn2 Q2 hz
  rw [hP] at eZ H
  have b2:=dO h4 ((d+nn:Nat):Int) Q2 Q2
  have b1:=dO h4 ((d+nn-1:Nat):Int) Q2 Q2
  have b0:=dO h4 ((d+nn-2:Nat):Int) Q2 Q2
  rw [cS] at b2 b1 b0
  have F:=gV WW u d Q2
  generalize hX:vl WW (u.drop d)=X at *
  generalize hx2:rd u ((d+nn:Nat):Int)=x2 at *
  generalize hx1:rd u ((d+nn-1:Nat):Int)=x1 at *
  generalize hx0:rd u ((d+nn-2:Nat):Int)=x0 at *
  have G:((x2*WW+x1)*WW+x0)*P<=X:=Q2
  have I:X<((x2*WW+x1)*WW+x0+1)*P:=by rw [Int.add_mul _ 1 P,Int.one_mul];omega
  have a:0<=X / M:=Int.ediv_nonneg r Q2
  have O:=Int.mul_ediv_add_emod X M
  have L:=Int.emod_nonneg X (show M≠0 by omega)
  have K:=Int.emod_lt_of_pos X b
  have hq:X / M*M<=X:=by rw [Int.mul_comm];omega
  have f:X<(X / M+1)*M:=by rw [Int.add_mul,Int.one_mul,Int.mul_comm];omega
  have h:X / M<4294967296:=Int.ediv_lt_of_lt_mul b (by rw [<- cS];exact A)
  generalize hQ:X / M=qd at *
  have B:x2*WW+x1<=top*WW+next:=by
   have a1:((x2*WW+x1)*WW+x0)*P<(WW*(top*WW+next+1))*P:=by
    have:WW*M<WW*((top*WW+next+1)*P):=Int.mul_lt_mul_of_pos_left p aH
    rw [Int.mul_assoc]
    omega
   have a2:=qR a1 w0
   rw [cS] at a2 ⊢
   omega
  have e:0<=x2*WW+x1:=by rw [cS];omega
  have m:=D4 b2 b1
  rw [<- cS] at m
  generalize hH:x2*WW+x1=high at *
  have d1:=Int.mul_ediv_add_emod high top
  have d2:=Int.emod_nonneg high (show top≠0 by omega)
  have d3:=Int.emod_lt_of_pos high (show 0<top by omega)
  have d0:0<=high / top:=Int.ediv_nonneg e Q2
  have gq:qd<=high / top:=by
   refine Int.le_ediv_of_mul_le Q2 ?_
   have a1:qd*((top*WW+next)*P)<=qd*M:=Int.mul_le_mul_of_nonneg_left n a
   have a2:(qd*(top*WW+next))*P<(high*WW+x0+1)*P:=by rw [Int.mul_assoc];omega
   have a3:=qR a2 w0
   have a4:qd*(top*WW+next)=(qd*top)*WW+qd*next:=by grind
   have a5:0<=qd*next:=Int.mul_nonneg a bn.1
   rw [cS] at a3 a4
   omega
  have gW:high / top<=4294967297/\(high / top=4294967297->high % top+top<4294967296):=by
   have a1:top*(high / top)<=top*WW+next:=Q2
   constructor
   ·rcases Int.lt_or_le 4294967297 (high / top) with c | c
    ·exfalso
     have:top*4294967298<=top*(high / top):=Int.mul_le_mul_of_nonneg_left Q2 Q2
     rw [cS] at a1
     omega
    exact c
   intro c
   rw [c] at d1
   rw [cS] at B
   omega
  obtain ⟨g,g1,g2,g3,g4⟩:=JA (q:=q) (v:=v) (u:=u) (s:=(s:Int)) (nn:=nn) (j:=d) (X:=X) (M:=M) (P:=P) (top:=top) (next:=next) (x0:=x0) (high:=high) (qd:=qd) Q2 hn2 Q2 hx0 Q2 bt.2 bn.1 bn.2 b0.1 b0.2 n Q2 w G I w0 hq f h a _ (high / top) (high % top) rfl (by rw [Int.mul_comm];exact d1) d2 Q2 gq gW.1 gW.2
  obtain ⟨u2,v1,v2,v3,v4,v5⟩:=JB (q:=q) (v:=v) (u:=u) (s:=(s:Int)) (top:=top) (next:=next) (nn:=nn) (j:=d) (X:=X) (M:=M) (qd:=qd) (g:=g) Q2 hv dv eM Q2 Q2 h4 hX hz hq f h a g1 g2 g3
  have o:=gV WW u2 d Q2
  rw [v3,v4] at o
  obtain ⟨q',r',e1,e2⟩:=ih d (q.set d qd) u2 rfl Q2 Q2 (by rw [List.length_set,v1];exact h3) v2
   (by rw [fy _ _ _ Q2];exact Dg.mk a (by rw [cS];exact h) h5)
   (by rw [v4];rw [Int.add_mul,Int.one_mul] at f;omega)
   (by
    rw [fy _ _ _ Q2,vl,o]
    rw [Int.pow_succ] at h7
    exact LM F h7)
  refine ⟨q',r',?_,e2⟩
  refine Ev.step (fun k=>by rw [aI.l0]) ?_
  have z:high / top<18446744073709551616:=Q2
  have D:=g4 _ (v5 _ e1)
  rw [show (((d+1:Nat):Int)-1)=(d:Int) by omega,show (d:Int)+(nn:Int)=((d+nn:Nat):Int) by omega,cy (x:=((d+nn:Nat):Int)) Q2 Q2,show ((d+nn:Nat):Int)-1=((d+nn-1:Nat):Int) by omega,cy (x:=((d+nn-1:Nat):Int)) Q2 Q2,hx2,hx1,u64 (x:=x2) Q2 Q2,u64 (x:=x1) Q2 Q2,u64 (x:=x2*4294967296) Q2 Q2,<- cS,m,fB e,fG e,u64 (x:=high / top) d0 z]
  clear m
  exact bC Q2 (bC Q2 (bC Q2 (bC Q2 (bC Q2 (eD Q2 D)))))
theorem JK {t:List Int} {n:Nat} (h:t.length<=n) (dt:Dg WW t):(j6 (List.replicate n 0) t).length=n/\Dg WW (j6 (List.replicate n 0) t)/\vl WW (j6 (List.replicate n 0) t)=vl WW t:=by
 have e:j6 (List.replicate n 0) t=t++List.replicate (n-t.length) 0:=by
  unfold j6
  rw [List.length_replicate,Nat.min_eq_left h,List.take_length,List.drop_replicate]
 rw [e]
 refine ⟨by simp;omega,dt.append (Dg.rep aH _),?_⟩
 rw [iS,yI,Int.mul_zero,Int.add_zero]
theorem HO {s:Nat} (h:s<=31):(2:Int) ^ s<=2147483648:=by
 have h2:(2:Int) ^ s<=2 ^ 31:=by
  have:2 ^ s<=2 ^ 31:=Nat.pow_le_pow_right (by decide) h
  exact_mod_cast this
 exact Int.le_trans h2 (by decide)
theorem normed {b:List Int} {m:Int} {L:Nat} (hb:Can WW b m) (hp:0<b.length) (h1:rd b ((b.length:Int)-1)<2 ^ L) (h2:2 ^ (L-1)<=rd b ((b.length:Int)-1)) (hL:1<=L) (hL2:L<=32) :
 m*2 ^ (32-L)<WW ^ b.length/\2147483648*WW ^ (b.length-1)<=m*2 ^ (32-L):=by
 have lv:=sr (a:=b) hp
 rw [hb.2.2] at lv
 have hd:=hb.1.take (b.length-1)
 have l0:=bN aH hd
 have l1:=fW aH hd
 rw [List.length_take,Nat.min_eq_left Q2] at l1
 have hP:(0:Int)<WW ^ (b.length-1):=jb aH _
 have hs:=two_pos (32-L)
 have e1:WW ^ b.length=(2 ^ L*WW ^ (b.length-1))*2 ^ (32-L):=by
  have:b.length=(b.length-1)+1:=Q2
  rw [this,Int.pow_succ,Nat.add_sub_cancel,Int.mul_comm (2 ^ L),Int.mul_assoc,<- Int.pow_add,show L+(32-L)=32 by omega];rfl
 have e2:2147483648*WW ^ (b.length-1)=(2 ^ (L-1)*WW ^ (b.length-1))*2 ^ (32-L):=by
  rw [Int.mul_comm (2 ^ (L-1)),Int.mul_assoc,<- Int.pow_add,show L-1+(32-L)=31 by omega,Int.mul_comm];rfl
 generalize rd b ((b.length:Int)-1)=x at *
 have m1:(x+1)*WW ^ (b.length-1)<=2 ^ L*WW ^ (b.length-1):=Int.mul_le_mul_of_nonneg_right Q2 Q2
 have m2:2 ^ (L-1)*WW ^ (b.length-1)<=x*WW ^ (b.length-1):=Int.mul_le_mul_of_nonneg_right h2 Q2
 rw [Int.add_mul] at m1
 rw [e1,e2]
 exact ⟨Int.mul_lt_mul_of_pos_right Q2 hs,Int.mul_le_mul_of_nonneg_right Q2 Q2⟩
theorem lM {a b:List Int} {n m:Int} (hn:a.length<17179869184) (ha:Can WW a n) (hb:Can WW b m) (hm:0<m) :
 ∃ q r,Ev (fun k=>aI.f k a b) (q,r)/\Can WW q (n / m)/\Can WW r (n % m):=by
 have n0:=ha.fT aH
 have lb:0<b.length:=by
  rcases Nat.eq_zero_or_pos b.length with c | c
  ·have:=(hb.jj aH).1 c
   omega
  exact c
 have hc:=qQ Q2 ha hb
 by_cases c1:n<m
 ·have e:dD n m = -1:=by unfold dD;rw [if_pos c1]
  rw [e] at hc
  refine ⟨[],a,?_,?_,?_⟩
  ·unfold aI.f
   refine Ev.bind hc (bC Q2 (bC (by simp;omega) ?_))
   exact aX _
  ·rw [Int.ediv_eq_zero_of_lt n0 c1];exact Can.zero _
  rw [Int.emod_eq_of_lt n0 c1];exact ha
 have g:¬ dD n m<0:=by unfold dD;rw [if_neg c1];split<;>omega
 have w:b.length<=a.length:=kO ha hb Q2
 have bx:=dO hb.1 ((b.length:Int)-1) Q2 Q2
 have bz:=hb.2.1.rd lb
 rw [cS] at bx
 by_cases c2:b.length=1
 ·have e1:m=rd b 0:=by
   have:=sr (a:=b) lb
   rw [hb.2.2,c2] at this
   simpa [vl] using this
  rw [c2] at bx
  have l:0<=m/\m<4294967296:=by rw [e1];exact bx
  obtain ⟨q,q1,q2,q3⟩:=wi Q2 ha (K:=m) ⟨Q2,l.2⟩
  have r0:=Int.emod_nonneg n (show m≠0 by omega)
  have r1:=Int.emod_lt_of_pos n hm
  obtain ⟨r,r2,r3⟩:=gP (a:=n % m) r0 Q2
  refine ⟨q,r,?_,q2,r3⟩
  unfold aI.f
  refine Ev.bind hc (eD g (bC Q2 (bC Q2 ?_)))
  rw [<- e1]
  refine Ev.bind q1 ?_
  rw [u64 (x:=n % m) Q2 Q2]
  exact Ev.bind r2 (aX _)
 obtain ⟨L,z1,z2,z3,z4⟩:=FD bx.1 bx.2
 obtain ⟨z5,z6⟩:=z4 bz
 obtain ⟨M1,M2⟩:=normed hb lb z3 z5 z6 z2
 have hs:=two_pos (32-L)
 have j:=HO (s:=32-L) Q2
 obtain ⟨v,v1,v2,v3⟩:=wk (32-L) Q2 hb
 obtain ⟨t,t1,t2,t3⟩:=wk (32-L) Q2 ha
 have d:v.length=b.length:=by
  have h1:=v2.gx bw M1
  have h2:WW ^ (b.length-1)<=m*2 ^ (32-L):=by
   have:(0:Int)<WW ^ (b.length-1):=jb aH _
   omega
  have h3:=v2.len_ge bw h2
  omega
 have i:2147483648<=rd v ((b.length-1:Nat):Int):=by
  have lv:=sr (a:=v) Q2
  rw [v2.2.2,d,show (b.length:Int)-1=((b.length-1:Nat):Int) by omega] at lv
  have hd:=v2.1.take (b.length-1)
  have l1:=fW aH hd
  rw [List.length_take,Nat.min_eq_left Q2] at l1
  have hP:(0:Int)<WW ^ (b.length-1):=jb aH _
  have h3:2147483648*WW ^ (b.length-1)<(rd v ((b.length-1:Nat):Int)+1)*WW ^ (b.length-1):=by
   rw [Int.add_mul];omega
  have:=qR h3 hP
  omega
 obtain ⟨u1,u2,u3⟩:=JK (t:=t) (n:=a.length+1) Q2 t2.1
 generalize hu:j6 (List.replicate (a.length+1) 0) t=u at *
 rw [t2.2.2] at u3
 have o:=dO v2.1 ((b.length-1:Nat):Int) Q2 Q2
 have p:=dO v2.1 ((b.length-2:Nat):Int) Q2 Q2
 rw [cS] at o p
 have h:vl WW (u.drop (a.length+1-b.length))<m*2 ^ (32-L):=by
  rcases Int.lt_or_le (vl WW (u.drop (a.length+1-b.length))) (m*2 ^ (32-L)) with c | c
  ·exact c
  exfalso
  have hd:=gV WW u (a.length+1-b.length) Q2
  rw [u3] at hd
  have l0:=bN aH (u2.take (a.length+1-b.length))
  have y:(0:Int)<WW ^ (a.length+1-b.length):=jb aH _
  have a1:WW ^ (a.length+1-b.length)*(2147483648*WW ^ (b.length-1))<=WW ^ (a.length+1-b.length)*vl WW (u.drop (a.length+1-b.length)):=Int.mul_le_mul_of_nonneg_left Q2 Q2
  have a2:WW ^ (a.length+1-b.length)*(2147483648*WW ^ (b.length-1))=2147483648*WW ^ a.length:=by
   rw [Int.mul_left_comm,<- Int.pow_add,show a.length+1-b.length+(b.length-1)=a.length by omega]
  have a3:n*2 ^ (32-L)<WW ^ a.length*2 ^ (32-L):=Int.mul_lt_mul_of_pos_right (ha.lt aH) hs
  have z:(0:Int)<WW ^ a.length:=jb aH _
  have a4:WW ^ a.length*2 ^ (32-L)<=WW ^ a.length*2147483648:=Int.mul_le_mul_of_nonneg_left j Q2
  omega
 obtain ⟨q,r,r1,r2,r3⟩:=dm_l0 (s:=32-L) (nn:=b.length) (v:=v) (N:=n*2 ^ (32-L)) Q2 Q2 d v2.1 v2.2.2 rfl rfl i (a.length+1-b.length) (a.length+1-b.length) (List.replicate (a.length+1-b.length) 0) u rfl Q2 Q2 (by rw [List.length_replicate,u1]) u2
  (by rw [List.drop_eq_nil_of_le Q3];exact Dg.nil _) h (by rw [List.drop_eq_nil_of_le Q3,vl,Int.mul_zero,Int.mul_zero,Int.add_zero];exact u3)
 rw [Int.mul_ediv_mul_of_pos_left _ _ hs] at r2
 rw [Int.mul_comm n,Int.mul_comm m,Int.mul_emod_mul_of_pos _ _ hs,Int.mul_ediv_cancel_left _ Q2] at r3
 refine ⟨q,r,?_,r2,r3⟩
 unfold aI.f
 refine Ev.bind hc (eD g (eD Q2 ?_))
 rw [cy (x:=(b.length:Int)-1) Q2 Q2,cy (x:=(a.length:Int)+1) Q2 Q2]
 refine bC Q2 (bC Q2 (jY z1 (Ev.bind v1 (bC Q2 (bC Q2 (jY rfl (Ev.bind t1 ?_)))))))
 rw [show ((a.length:Int)+1).toNat=a.length+1 by omega,hu,List.length_replicate,d,show ((a.length+1:Nat):Int)-(b.length:Int)=((a.length+1-b.length:Nat):Int) by omega,cy (x:=((a.length+1-b.length:Nat):Int)) Q2 Q2,cy (x:=((a.length+1-b.length:Nat):Int)-1) Q2 Q2,show (b.length:Int)-1=((b.length-1:Nat):Int) by omega,show (b.length:Int)-2=((b.length-2:Nat):Int) by omega,cy (x:=((b.length-1:Nat):Int)) Q2 Q2,cy (x:=((b.length-2:Nat):Int)) Q2 Q2,u64 (x:=rd v ((b.length-1:Nat):Int)) Q2 Q2,u64 (x:=rd v ((b.length-2:Nat):Int)) Q2 Q2,Int.toNat_natCast]
 exact bC Q2 (bC Q2 (bC Q2 (bC Q2 (bC Q2 (bC Q2 r1)))))
theorem JG {l:List Int} (h:∀ x∈l,(Lit.int .u32 x).wf=true):Dg WW l:=by
 intro x hx
 have h1:=h x hx
 have h2:IntKind.u32.min=0:=rfl
 have h3:IntKind.u32.max=4294967295:=rfl
 simp only [Lit.wf,Bool.and_eq_true,decide_eq_true_eq,h2,h3] at h1
 rw [cS]
 omega
theorem Br {a:List Int} (hl:a.length<=4) (ha:Dg RR a) (d:Nat):∀ (i:Nat) (x:Int),i=d->i<=a.length->x=vl RR (a.drop i)->Ev (fun k=>aP.l0 k a x ((i:Int)-1)) (vl RR a,true):=by
 have bd:∀ i:Nat,i<=a.length->0<=vl RR (a.drop i)/\vl RR (a.drop i)<10000000000000000:=by
  intro i hi
  have h1:=fW aW (ha.drop i)
  have h2:=fj (B:=RR) (by decide) (show (a.drop i).length<=4 by rw [List.length_drop];omega)
  have h3:RR ^ 4=10000000000000000:=by decide
  exact ⟨bN aW (ha.drop i),Q2⟩
 induction d with
 | zero =>
  rintro i x rfl h1 h2
  rw [List.drop_zero] at h2
  subst h2
  refine Ev.step (fun k=>by rw [aP.l0]) ?_
  exact eD Q2 (aX _)
 | succ d ih =>
  rintro i x rfl h1 h2
  have hx:=dO ha (d:Int) Q2 Q2
  rw [ef] at hx
  have b1:=bd (d+1) Q2
  have b0:=bd d Q2
  have e:x*10000+rd a (d:Int)=vl RR (a.drop d):=by
   rw [h2,fC a d Q2,vl,ef];omega
  have b:=ih d (x*10000+rd a (d:Int)) rfl Q2 e
  refine Ev.step (fun k=>by rw [aP.l0]) ?_
  rw [show (((d+1:Nat):Int)-1)=(d:Int) by omega,cy (x:=x*10000) Q2 Q2,cy (x:=x*10000+rd a (d:Int)) Q2 Q2,cy (x:=(d:Int)-1) Q2 Q2]
  exact bC Q2 (bC Q2 (bC Q2 b))
theorem k6 {a:List Int} {n:Int} (hl:a.length<4611686018427387904) (ha:Can RR a n):(a.length<=4->Ev (fun k=>aP.f k a) (n,true))/\(4<a.length->Ev (fun k=>aP.f k a) (0,false)):=by
 constructor
 ·intro h
  have:=Br h ha.1 a.length a.length 0 rfl (Nat.le_refl _) (by rw [List.drop_length];rfl)
  rw [ha.2.2] at this
  unfold aP.f
  rw [cy (x:=(a.length:Int)-1) Q2 Q2]
  exact eD Q2 this
 intro h
 unfold aP.f
 exact bC Q2 (aX _)
theorem CF {r b:List Int} {x m:Int} (hr:r.length<34359738368) (hb:b.length<34359738368) (cr:Can RR r x) (cb:Can RR b m) (hm:0<m) (hx:x<m*10000) (c:Nat):∀ q:Int,(10000-q).toNat<=c->0<=q->q<=9999->m*q<=x->Ev (fun k=>an.l3 k r b q) (x / m):=by
 have a:∀ q:Int,0<=q->m*q<=x->x<m*(q+1)->x / m=q:=by
  intro q h0 h1 h2
  have d1:=Int.mul_ediv_add_emod x m
  have d2:=Int.emod_nonneg x (show m≠0 by omega)
  have d3:=Int.emod_lt_of_pos x hm
  have l1:m*q<m*(x / m+1):=by rw [Int.mul_add];omega
  have l2:m*(x / m)<m*(q+1):=Q2
  have l3:=Int.lt_of_mul_lt_mul_left l1 (Int.le_of_lt hm)
  have l4:=Int.lt_of_mul_lt_mul_left l2 (Int.le_of_lt hm)
  omega
 induction c with
 | zero=>intro q h1 h2 h3 h4;omega
 | succ c ih =>
  intro q h1 h2 h3 h4
  refine Ev.step (fun k=>by rw [an.l3]) ?_
  rw [cy (x:=q+1) Q2 Q2]
  by_cases c1:q+1<10000
  ·obtain ⟨s,s1,s2,s3⟩:=jz (k0:=q+1) (c0:=0) Q2 cb ⟨Q2,Q2⟩ ⟨Q2,Q2⟩
   rw [Int.add_zero] at s2
   have k1:=eh Q2 s2 cr
   by_cases c2:m*(q+1)<=x
   ·refine bC c1 (Ev.bind s1 (Ev.bind k1 (bC ?_ (ih (q+1) Q2 Q2 Q2 c2))))
    unfold dD;split<;>(try split)<;>omega
   rw [a q h2 h4 Q2]
   refine bC c1 (Ev.bind s1 (Ev.bind k1 (eD ?_ (aX _))))
   unfold dD;rw [if_neg Q2,if_neg Q2];omega
  have e:q=9999:=Q2
  subst e
  rw [a 9999 h2 h4 Q2]
  exact eD c1 (aX _)
theorem JC {r b:List Int} {x m:Int} (hr:r.length<34359738368) (hb:b.length<34359738368) (cr:Can RR r x) (cb:Can RR b m) (hm:0<m) (hx:x<m*10000) (c:Nat):∀ q:Int,q.toNat<=c->0<=q->q<=9999->Ev (fun k=>an.l2 k r b q) (x / m):=by
 have x0:=cr.fT aW
 induction c with
 | zero =>
  intro q h1 h2 h3
  have e:q=0:=Q2
  subst e
  obtain ⟨s,s1,s2,s3⟩:=jz (k0:=0) (c0:=0) Q2 cb ⟨Q2,Q2⟩ ⟨Q2,Q2⟩
  rw [Int.add_zero,Int.mul_zero] at s2
  have k1:=eh Q2 s2 cr
  refine Ev.step (fun k=>by rw [an.l2]) ?_
  refine Ev.bind s1 (Ev.bind k1 (eD ?_ (CF hr hb cr cb hm hx _ 0 (Nat.le_refl _) Q2 Q2 Q2)))
  unfold dD;split<;>(try split)<;>omega
 | succ c ih =>
  intro q h1 h2 h3
  obtain ⟨s,s1,s2,s3⟩:=jz (k0:=q) (c0:=0) Q2 cb ⟨Q2,Q2⟩ ⟨Q2,Q2⟩
  rw [Int.add_zero] at s2
  have k1:=eh Q2 s2 cr
  refine Ev.step (fun k=>by rw [an.l2]) ?_
  rw [cy (x:=q-1) Q2 Q2]
  by_cases c2:m*q<=x
  ·refine Ev.bind s1 (Ev.bind k1 (eD ?_ (CF hr hb cr cb hm hx _ q (Nat.le_refl _) h2 h3 c2)))
   unfold dD;split<;>(try split)<;>omega
  have hq:q≠0:=fun h=>by rw [h,Int.mul_zero] at c2;omega
  refine Ev.bind s1 (Ev.bind k1 (bC ?_ (ih (q-1) Q2 Q2 Q2)))
  unfold dD;rw [if_neg Q2,if_neg Q2];omega
theorem CG {r b:List Int} {x m t low:Int} (hr:r.length<34359738368) (hb:b.length<34359738368) (cr:Can RR r x) (cb:Can RR b m) (hm:0<m) (hx:x<m*10000) (ht:0<=t/\t<4611686018427387904) (hl:0<low):Ev (fun k=>an.j2 k r b t low) (x / m):=by
 have q0:0<=t / low:=Int.ediv_nonneg ht.1 Q2
 have q1:t / low<=t:=Int.ediv_le_self _ ht.1
 refine Ev.step (fun k=>by rw [an.j2]) ?_
 rw [fB ht.1,cy (x:=t / low) Q2 Q2]
 refine eD Q2 (JC hr hb cr cb hm hx _ _ (Nat.le_refl _) ?_ ?_)
 ·unfold mn;split<;>omega
 unfold mn;split<;>omega
theorem JD {r b:List Int} {x m t:Int} (hr:r.length<34359738368) (hb:b.length<34359738368) (cr:Can RR r x) (cb:Can RR b m) (hm:0<m) (hx:x<m*10000) (ht:0<=t/\t<4611686018427387904):Ev (fun k=>an.l1 k r b (b.length:Int) t 0 ((b.length:Int)-1)) (x / m):=by
 have lb:b.length≠0:=fun h=>by have:=(cb.jj aW).1 h;omega
 have h1:=dO cb.1 ((b.length:Int)-1) Q2 Q2
 have z1:=cb.2.1.rd Q2
 rw [ef] at h1
 by_cases c:b.length=1
 ·rw [c] at h1 z1
  have e0:((1:Nat):Int)-1=0:=Q2
  rw [e0] at h1 z1
  have hj:=CG hr hb cr cb hm hx ht (low:=rd b 0) Q2
  have em:mx 0 (wrap64 (((1:Nat):Int)-2))=0:=by rw [cy Q2 Q2];unfold mx;split<;>omega
  refine Ev.step (fun k=>by rw [an.l1]) ?_
  rw [c,em,e0,cy (x:=0*10000) Q2 Q2,cy (x:=0*10000+rd b 0) Q2 Q2,cy (x:=0-1) Q2 Q2]
  refine bC Q2 (bC Q2 (bC Q2 ?_))
  refine Ev.step (fun k=>by rw [an.l1]) ?_
  rw [em]
  exact eD Q2 (bC Q2 (bC Q2 hj))
 have h2:=dO cb.1 ((b.length:Int)-2) Q2 Q2
 rw [ef] at h2
 have em:mx 0 (wrap64 ((b.length:Int)-2))=(b.length:Int)-2:=by rw [cy Q2 Q2];unfold mx;split<;>omega
 have hj:=CG hr hb cr cb hm hx ht (low:=(0*10000+rd b ((b.length:Int)-1))*10000+rd b ((b.length:Int)-2)) Q2
 refine Ev.step (fun k=>by rw [an.l1]) ?_
 rw [em,cy (x:=0*10000) Q2 Q2,cy (x:=0*10000+rd b ((b.length:Int)-1)) Q2 Q2,cy (x:=(b.length:Int)-1-1) Q2 Q2,show (b.length:Int)-1-1=(b.length:Int)-2 by omega]
 refine bC Q2 (bC Q2 (bC Q2 ?_))
 refine Ev.step (fun k=>by rw [an.l1]) ?_
 rw [em,cy (x:=(0*10000+rd b ((b.length:Int)-1))*10000) Q2 Q2,cy (x:=(0*10000+rd b ((b.length:Int)-1))*10000+rd b ((b.length:Int)-2)) Q2 Q2,cy (x:=(b.length:Int)-2-1) Q2 Q2]
 refine bC Q2 (bC Q2 (bC Q2 ?_))
 refine Ev.step (fun k=>by rw [an.l1]) ?_
 rw [em]
 exact eD Q2 (eD Q2 hj)
theorem JE {r b:List Int} {x m:Int} (hr:r.length<34359738368) (hb:b.length<34359738368) (cr:Can RR r x) (cb:Can RR b m) (hm:0<m) (hx:x<m*10000) (c:Nat):∀ (t i:Int),(i+1-mx 0 ((b.length:Int)-2)).toNat=c->-1<=i->i<=b.length->0<=t->t<10000 ^ (3-c)->c<=3->Ev (fun k=>an.l0 k r b (b.length:Int) t 0 i) (x / m):=by
 have em:wrap64 ((b.length:Int)-2)=(b.length:Int)-2:=by rw [cy Q2 Q2]
 have e:0<=mx 0 ((b.length:Int)-2):=by unfold mx;split<;>omega
 induction c with
 | zero =>
  intro t i h1 h2 h3 h4 h5 h6
  have:=JD hr hb cr cb hm hx (t:=t) ⟨h4,Int.lt_trans h5 (by decide)⟩
  refine Ev.step (fun k=>by rw [an.l0]) ?_
  rw [em,cy (x:=(b.length:Int)-1) Q2 Q2]
  exact eD Q2 this
 | succ c ih =>
  intro t i h1 h2 h3 h4 h5 h6
  have hp:(10000:Int) ^ (3-(c+1))*10000=10000 ^ (3-c):=by
   rw [<- Int.pow_succ];congr 1;omega
  have hq:(10000:Int) ^ (3-c)<=10000 ^ 3:=fj (by decide) Q2
  have d:(10000:Int) ^ 3=1000000000000:=by decide
  refine Ev.step (fun k=>by rw [an.l0]) ?_
  rw [em,cy (x:=t*10000) Q2 Q2,cy (x:=i-1) Q2 Q2]
  refine bC Q2 ?_
  by_cases c1:i<(r.length:Int)
  ·have a:=dO cr.1 i Q2 Q2
   rw [ef] at a
   rw [cy (x:=t*10000+rd r i) Q2 Q2]
   exact bC c1 (bC Q2 (ih (t*10000+rd r i) (i-1) Q2 Q2 Q2 Q2 Q2 Q2))
  exact eD c1 (ih (t*10000) (i-1) Q2 Q2 Q2 Q2 Q2 Q2)
theorem DI {r b:List Int} {x m:Int} (hr:r.length<34359738368) (hb:b.length<34359738368) (cr:Can RR r x) (cb:Can RR b m) (hm:0<m) (hx:x<m*10000):Ev (fun k=>an.f k r b) (x / m):=by
 unfold an.f
 have a:(((b.length:Int)+1-mx 0 ((b.length:Int)-2)).toNat)<=3:=by unfold mx;split<;>omega
 exact JE hr hb cr cb hm hx _ 0 _ rfl Q2 (Int.le_refl _) Q2 (Int.pow_pos (by decide)) a
theorem J1 {x m q d a R va:Int} (h:x+m*q=va):(x*R+a-m*d)+m*(d+R*q)=a+R*va:=by grind
theorem KK {a b:List Int} {n m:Int} (hn:a.length<17179869184) (hb:b.length<17179869184) (ha:Can RR a n) (cb:Can RR b m) (hm:0<m) (d:Nat):∀ (i:Nat) (q r:List Int) (x:Int),i=d->i<=a.length->q.length=a.length->Dg RR (q.drop i)->Can RR r x->x<m->x+m*vl RR (q.drop i)=vl RR (a.drop i)->(∀ j:Nat,j<i->rd q (j:Int)=0) ->
 ∃ q' r',Ev (fun k=>aF.l0 k a b q r ((i:Int)-1)) (q',r')/\Can RR q' (n / m)/\Can RR r' (n % m)/\q'.length<=a.length:=by
 induction d with
 | zero =>
  rintro i q r x rfl h1 h2 h3 h4 h5 h6 h7
  rw [List.drop_zero,List.drop_zero,ha.2.2] at h6
  rw [List.drop_zero] at h3
  have x0:=h4.fT aW
  obtain ⟨t,t1,t2,t3⟩:=lY (l:=q) Q2 h3
  have e1:n / m=vl RR q:=by rw [<- h6,Int.add_mul_ediv_left _ _ Q2,Int.ediv_eq_zero_of_lt x0 h5,Int.zero_add]
  have e2:n % m=x:=by rw [<- h6,Int.add_mul_emod_self_left,Int.emod_eq_of_lt x0 h5]
  refine ⟨t,r,?_,by rw [e1];exact t2,by rw [e2];exact h4,Q2⟩
  refine Ev.step (fun k=>by rw [aF.l0]) ?_
  exact eD Q2 (Ev.bind t1 (aX _))
 | succ d ih =>
  rintro i q r x rfl h1 h2 h3 h4 h5 h6 h7
  have hx:=dO ha.1 (d:Int) Q2 Q2
  rw [ef] at hx
  have x0:=h4.fT aW
  have lr:=jZ cb h4 Q2
  obtain ⟨t,t1,t2,t3⟩:=jz (k0:=10000) (c0:=rd a (d:Int)) Q2 h4 ⟨Q2,Q2⟩ ⟨hx.1,Q2⟩
  have k1:=eh Q2 t2 cb
  by_cases c1:x*10000+rd a (d:Int)<m
  ·obtain ⟨q',r',e1,e2⟩:=ih d q t (x*10000+rd a (d:Int)) rfl Q2 h2
    (by rw [fC q d Q2];exact Dg.mk (by rw [h7 d Q2];omega) (by rw [h7 d Q2];decide) h3) t2 c1
    (by
     have:=J1 (R:=RR) (a:=rd a (d:Int)) (d:=0) h6
     rw [fC q d Q2,fC a d Q2,vl,vl,h7 d Q2]
     rw [Int.mul_zero,Int.sub_zero] at this
     exact this) (fun j hj=>h7 j Q2)
   refine ⟨q',r',?_,e2⟩
   refine Ev.step (fun k=>by rw [aF.l0]) ?_
   rw [show (((d+1:Nat):Int)-1)=(d:Int) by omega,cy (x:=(d:Int)-1) Q2 Q2]
   refine bC Q2 (bC Q2 (bC Q2 (Ev.bind t1 (Ev.bind k1 (bC ?_ e1)))))
   unfold dD;rw [if_pos c1];omega
  have d1:=Int.mul_ediv_add_emod (x*10000+rd a (d:Int)) m
  have d2:=Int.emod_nonneg (x*10000+rd a (d:Int)) (show m≠0 by omega)
  have d3:=Int.emod_lt_of_pos (x*10000+rd a (d:Int)) hm
  have hg:=DI (r:=t) (b:=b) Q2 Q2 t2 cb hm Q2
  have g0:0<=(x*10000+rd a (d:Int)) / m:=Int.ediv_nonneg Q2 Q2
  have g1:(x*10000+rd a (d:Int)) / m<10000:=Int.ediv_lt_of_lt_mul hm Q2
  generalize hG:(x*10000+rd a (d:Int)) / m=g at *
  obtain ⟨s,s1,s2,s3⟩:=jz (k0:=g) (c0:=0) Q2 cb ⟨Q2,Q2⟩ ⟨Q2,Q2⟩
  rw [Int.add_zero] at s2
  obtain ⟨y,y1,y2,y3⟩:=Bt Q2 t2 s2 Q2
  have hs:=xW q (d:Int) g Q2
  rw [Int.toNat_natCast] at hs
  obtain ⟨q',r',e1,e2⟩:=ih d (q.set d g) y (x*10000+rd a (d:Int)-m*g) rfl Q2 (by simpa using h2)
   (by rw [fy _ _ _ Q2];exact Dg.mk g0 (by rw [ef];exact g1) h3) y2 Q2
   (by
    rw [fy _ _ _ Q2,fC a d Q2,vl,vl]
    exact J1 h6)
   (fun j hj=>by
    have:=GH q (d:Int) (j:Int) g Q2
    rw [Int.toNat_natCast] at this
    rw [this]
    exact h7 j Q2)
  refine ⟨q',r',?_,e2⟩
  refine Ev.step (fun k=>by rw [aF.l0]) ?_
  rw [show (((d+1:Nat):Int)-1)=(d:Int) by omega,cy (x:=(d:Int)-1) Q2 Q2,Int.toNat_natCast]
  refine bC Q2 (bC Q2 (bC Q2 (Ev.bind t1 (Ev.bind k1 (eD ?_ (Ev.bind hg (bC Q2 (jY rfl ?_))))))))
  ·unfold dD;rw [if_neg c1];split<;>omega
  rw [hs]
  exact Ev.bind s1 (Ev.bind y1 e1)
theorem mV {a:Int} (h0:0<=a) (h1:a<100000000000000000):∃ r,Ev (fun k=>aR.f k a) r/\Can RR r a:=by
 by_cases c:a<10000000000000
 ·exact IC h0 c
 obtain ⟨r,h2,h3⟩:=Bu a (a / 10000).toNat [a % 10000] (a / 10000) Q2 Q2 (by simp;omega) (Dg.mk Q2 (by rw [ef];omega) (Dg.nil _)) (fun h=>Q2) (by
  show a % 10000+RR*0+a / 10000*RR ^ 1=a
  rw [ef];omega)
 refine ⟨r,?_,h3⟩
 refine Ev.congr (fun k=>by rw [aR.f]) ?_
 refine Ev.step (fun k=>by rw [aR.l0]) ?_
 rw [fG h0,fB h0,cy (x:=a / 10000) Q2 Q2]
 exact bC Q2 (bC Q3 h2)
theorem ud {a b:List Int} {n m:Int} (hn:a.length<1073741824) (hb:b.length<1073741824) (ha:Can RR a n) (cb:Can RR b m) (hm:0<m) :
 ∃ q r,Ev (fun k=>aF.f k a b) (q,r)/\Can RR q (n / m)/\Can RR r (n % m)/\q.length<1073741824/\r.length<1073741824:=by
 have n0:=ha.fT aW
 have hc:=eh Q2 ha cb
 have r0:=Int.emod_nonneg n (show m≠0 by omega)
 have r1:=Int.emod_lt_of_pos n hm
 have h:∀ q r,Can RR q (n / m)->Can RR r (n % m)->q.length<1073741824/\r.length<1073741824:=by
  intro q r hq hr
  have l1:=jZ ha hq (Int.ediv_le_self _ n0)
  have l2:=jZ cb hr Q2
  omega
 have g:∃ q r,Ev (fun k=>aF.f k a b) (q,r)/\Can RR q (n / m)/\Can RR r (n % m):=by
  by_cases c1:n<m
  ·refine ⟨[],a,?_,by rw [Int.ediv_eq_zero_of_lt n0 c1];exact Can.zero _,by rw [Int.emod_eq_of_lt n0 c1];exact ha⟩
   unfold aF.f
   refine Ev.bind hc (bC ?_ (aX _))
   unfold dD;rw [if_pos c1];omega
  have c:¬ dD n m<0:=by unfold dD;rw [if_neg c1];split<;>omega
  have o:=jZ ha cb Q2
  obtain ⟨l,d⟩:=k6 Q2 ha
  obtain ⟨i,p⟩:=k6 Q2 cb
  by_cases c2:a.length<=4
  ·have s:=ha.lt aW
   have h4:=fj (B:=RR) (by decide) c2
   have h5:RR ^ 4=10000000000000000:=by decide
   have q0:0<=n / m:=Int.ediv_nonneg n0 Q2
   have q1:n / m<=n:=Int.ediv_le_self _ n0
   obtain ⟨x,x1,x2⟩:=mV (a:=n / m) q0 Q2
   obtain ⟨y,y1,y2⟩:=mV (a:=n % m) r0 Q2
   refine ⟨x,y,?_,x2,y2⟩
   unfold aF.f
   refine Ev.bind hc (eD c (Ev.bind (l c2) (bC rfl (Ev.bind (i Q2) (eD (show ¬ m=0 by omega) ?_)))))
   rw [fB n0,fG n0,cy (x:=n / m) Q2 Q2]
   exact Ev.bind x1 (Ev.bind y1 (aX _))
  by_cases c3:b.length=1
  ·have hx:=dO cb.1 0 Q2 Q2
   rw [ef] at hx
   have em:m=rd b 0:=by
    have e:=dH RR b 0 Q2
    rw [show 0+1=b.length by omega,List.take_length,cb.2.2] at e
    simpa [vl] using e
   obtain ⟨q,q1,q2,q3⟩:=vF Q2 ha (K:=m) ⟨Q2,Q2⟩
   obtain ⟨y,y1,y2⟩:=mV (a:=n % m) r0 Q2
   refine ⟨q,y,?_,q2,y2⟩
   unfold aF.f
   refine Ev.bind hc (eD c (Ev.bind (d Q2) (eD Q3 (bC Q2 (bC Q2 ?_)))))
   rw [<- em]
   exact Ev.bind q1 (Ev.bind y1 (aX _))
  obtain ⟨q,r,e1,e2,e3,e4⟩:=KK Q2 Q2 ha cb hm a.length a.length (List.replicate a.length 0) [] 0 rfl (Nat.le_refl _) Q3 (by rw [List.drop_eq_nil_of_le Q3];exact Dg.nil _) (Can.zero _) hm (by rw [List.drop_eq_nil_of_le Q3,List.drop_length];simp [vl]) (fun j hj=>by rw [kC _ _ (by simpa using hj)];simp)
  refine ⟨q,r,?_,e2,e3⟩
  unfold aF.f
  refine Ev.bind hc (eD c (Ev.bind (d Q2) (eD Q3 (eD Q2 (bC Q2 (bC Q2 ?_))))))
  rw [cy (x:=(a.length:Int)-1) Q2 Q2,Int.toNat_natCast]
  exact e1
 obtain ⟨q,r,e1,e2,e3⟩:=g
 exact ⟨q,r,e1,e2,e3,h q r e2 e3⟩
def gI (a b:Int):Int:=((Int.gcd a b:Nat):Int)
theorem Lm (a b:Int):gI a b=gI b a:=by unfold gI;rw [Int.gcd_comm]
theorem uY {a:Int} (h:0<=a):gI a 0=a:=by
 unfold gI
 rw [Int.gcd_zero_right]
 omega
theorem Jn (a b k:Int):gI b (a-k*b)=gI a b:=by
 unfold gI
 rw [Int.gcd_sub_mul_right_right,Int.gcd_comm]
theorem wE (a b:Int):gI b (a % b)=gI a b:=by
 rw [Int.emod_def,Int.mul_comm b]
 exact Jn a b (a / b)
theorem gI_le {a b:Int} (h:0<b):gI a b<=b:=by
 unfold gI
 exact Int.le_of_dvd h (Int.gcd_dvd_right a b)
theorem Ix (c:Nat):∀ x y:Int,y.toNat=c->0<=x->x<100000000000000000->0<=y->y<100000000000000000->∃ r,Ev (fun k=>ay.l1 k x y) r/\Can RR r (gI x y):=by
 induction c using Nat.strongRecOn with
 | _ c ih =>
  intro x y hc x0 x1 y0 y1
  by_cases c1:y>0
  ·have m0:=Int.emod_nonneg x (show y≠0 by omega)
   have m1:=Int.emod_lt_of_pos x c1
   obtain ⟨r,r1,r2⟩:=ih (x % y).toNat Q2 y (x % y) rfl y0 y1 m0 Q2
   rw [wE] at r2
   refine ⟨r,?_,r2⟩
   refine Ev.step (fun k=>by rw [ay.l1]) ?_
   rw [fG x0]
   exact bC c1 (eD Q2 r1)
  have e:y=0:=Q2
  subst e
  obtain ⟨r,r1,r2⟩:=mV x0 x1
  rw [uY x0]
  refine ⟨r,?_,r2⟩
  refine Ev.step (fun k=>by rw [ay.l1]) ?_
  exact eD Q2 (Ev.bind r1 (aX _))
theorem Iy (c:Nat):∀ (a b:List Int) (n m:Int),m.toNat=c->a.length<1073741824->b.length<1073741824->Can RR a n->Can RR b m->∃ r,Ev (fun k=>ay.l0 k a b) r/\Can RR r (gI n m):=by
 induction c using Nat.strongRecOn with
 | _ c ih =>
  intro a b n m hc la lb ha hb
  have n0:=ha.fT aW
  have m0:=hb.fT aW
  have hz:=hb.jj aW
  by_cases c1:m=0
  ·have e:=hz.2 c1
   rw [c1,uY n0]
   refine ⟨a,?_,ha⟩
   refine Ev.step (fun k=>by rw [ay.l0]) ?_
   exact eD Q2 (aX _)
  have e:b.length≠0:=fun h=>c1 (hz.1 h)
  have mp:0<m:=Q2
  obtain ⟨g,f⟩:=k6 Q2 ha
  obtain ⟨j,i⟩:=k6 Q2 hb
  have h5:RR ^ 4=10000000000000000:=by decide
  have d:∀ x y,∃ r,Ev (fun k=>ay.j1 k a b x y false) r/\Can RR r (gI n m):=by
   intro x y
   have r0:=Int.emod_nonneg n (show m≠0 by omega)
   have r1:=Int.emod_lt_of_pos n mp
   obtain ⟨q,r,d1,d2,d3,d4,d5⟩:=ud la lb ha hb mp
   obtain ⟨z,z1,z2⟩:=ih (n % m).toNat Q2 b r m (n % m) rfl lb d5 hb d3
   rw [wE] at z2
   refine ⟨z,?_,z2⟩
   refine Ev.step (fun k=>by rw [ay.j1]) ?_
   exact eD Q3 (Ev.bind d1 z1)
  by_cases c2:a.length<=4
  ·by_cases c3:b.length<=4
   ·have p:=ha.lt aW
    have h4:=fj (B:=RR) (by decide) c2
    have l:=hb.lt aW
    have o:=fj (B:=RR) (by decide) c3
    obtain ⟨z,z1,z2⟩:=Ix _ n m rfl n0 Q2 m0 Q2
    refine ⟨z,?_,z2⟩
    refine Ev.step (fun k=>by rw [ay.l0]) ?_
    refine bC Q2 (Ev.bind (g c2) (Ev.bind (j c3) (bC rfl ?_)))
    refine Ev.step (fun k=>by rw [ay.j1]) ?_
    exact bC rfl z1
   obtain ⟨z,z1,z2⟩:=d n 0
   refine ⟨z,?_,z2⟩
   refine Ev.step (fun k=>by rw [ay.l0]) ?_
   exact bC Q2 (Ev.bind (g c2) (Ev.bind (i Q2) (bC rfl z1)))
  by_cases c3:b.length<=4
  ·obtain ⟨z,z1,z2⟩:=d 0 m
   refine ⟨z,?_,z2⟩
   refine Ev.step (fun k=>by rw [ay.l0]) ?_
   exact bC Q2 (Ev.bind (f Q2) (Ev.bind (j c3) (eD Q3 z1)))
  obtain ⟨z,z1,z2⟩:=d 0 0
  refine ⟨z,?_,z2⟩
  refine Ev.step (fun k=>by rw [ay.l0]) ?_
  exact bC Q2 (Ev.bind (f Q2) (Ev.bind (i Q2) (eD Q3 z1)))
theorem ID {a b:List Int} {n m:Int} (la:a.length<1073741824) (lb:b.length<1073741824) (ha:Can RR a n) (hb:Can RR b m):∃ r,Ev (fun k=>ay.f k a b) r/\Can RR r (gI n m):=by
 unfold ay.f
 exact Iy _ a b n m rfl la lb ha hb
theorem jP {r:List Int} {v:Int} (hr:Can WW r v) (hl:r.length<=2):eU.f r=some (v,true):=by
 unfold eU.f
 by_cases c:r.length=0
 ·rw [(hr.jj aH).1 c,if_pos Q2]
 have e:=sr (a:=r) Q2
 have v0:=hr.fT aH
 have h0:=dO hr.1 0 Q2 Q2
 rw [cS] at h0
 rw [hr.2.2] at e
 by_cases h1:r.length=1
 ·rw [h1] at e
  have e2:v=rd r 0:=by simpa [vl] using e
  rw [if_neg Q2,if_pos Q2,if_pos Q2,<- e2,u64 (x:=v) Q2 Q2]
 have h2:r.length=2:=Q2
 have hx:=dO hr.1 1 Q2 Q2
 rw [cS] at hx
 have e3:=dH WW r 0 Q2
 have e4:v=rd r 1*4294967296+rd r 0:=by
  rw [h2] at e
  have f1:((2:Nat):Int)-1=1:=rfl
  have f2:(2:Nat)-1=0+1:=rfl
  rw [f1,f2,e3,cS,List.take_zero] at e
  simp only [vl] at e
  rw [e]
  have f3:((0:Nat):Int)=0:=rfl
  have f4:(4294967296:Int) ^ 0=1:=rfl
  have f5:(4294967296:Int) ^ (0+1)=4294967296:=rfl
  rw [f3,f4,f5]
  omega
 rw [if_neg Q2,if_neg Q2,if_pos Q2,if_pos Q2,if_pos Q2,u64 (x:=rd r 1) Q2 Q2,u64 (x:=rd r 0) Q2 Q2,u64 (x:=rd r 1*4294967296) Q2 Q2,D4 hx h0,e4]
theorem Gd {n m p q:Int}:m*q-n*(-p)=p*n+q*m:=by grind
theorem Gc {n m p q:Int}:n*p-m*(-q)=p*n+q*m:=by grind
theorem wQ {a b:List Int} {n m p q:Int} (la:a.length<1073741824) (lb:b.length<1073741824) (ha:Can WW a n) (hb:Can WW b m) (hs:(0<=p/\q<=0)∨(p<=0/\0<=q))
 (hp:-4611686018427387904<=p/\p<=4611686018427387904) (hq:-4611686018427387904<=q/\q<=4611686018427387904) (h:0<=p*n+q*m):∃ r,Ev (fun k=>cC.f k a b p q) r/\Can WW r (p*n+q*m):=by
 have e:WW ^ 2=18446744073709551616:=by decide
 have c:p<=0->0<=q->∃ r,Ev (fun k=>cC.j0 k a b p q true) r/\Can WW r (p*n+q*m):=by
  intro p0 q0
  obtain ⟨t,t1,t2⟩:=gP (a:=q) q0 Q2
  have t3:=t2.gx (k:=2) bw Q2
  obtain ⟨x,x1,x2,x3⟩:=kF Q2 hb t2
  obtain ⟨s,s1,s2⟩:=gP (a:=-p) Q2 Q2
  have s3:=s2.gx (k:=2) bw Q2
  obtain ⟨y,y1,y2,y3⟩:=kF Q2 ha s2
  rw [<- Gd] at h
  obtain ⟨z,z1,z2,z3⟩:=qO Q2 x2 y2 Q2
  rw [Gd] at z2
  refine ⟨z,?_,z2⟩
  refine Ev.step (fun k=>by rw [cC.j0]) ?_
  rw [cy (x:=-p) Q2 Q2,u64 (x:=-p) Q2 Q2,u64 (x:=q) Q2 Q2]
  exact bC rfl (Ev.bind t1 (Ev.bind x1 (Ev.bind s1 (Ev.bind y1 (Ev.bind z1 (aX _))))))
 have d:0<=p->q<=0->∃ r,Ev (fun k=>cC.j0 k a b p q false) r/\Can WW r (p*n+q*m):=by
  intro p0 q0
  obtain ⟨t,t1,t2⟩:=gP (a:=p) p0 Q2
  have t3:=t2.gx (k:=2) bw Q2
  obtain ⟨x,x1,x2,x3⟩:=kF Q2 ha t2
  obtain ⟨s,s1,s2⟩:=gP (a:=-q) Q2 Q2
  have s3:=s2.gx (k:=2) bw Q2
  obtain ⟨y,y1,y2,y3⟩:=kF Q2 hb s2
  rw [<- Gc] at h
  obtain ⟨z,z1,z2,z3⟩:=qO Q2 x2 y2 Q2
  rw [Gc] at z2
  refine ⟨z,?_,z2⟩
  refine Ev.step (fun k=>by rw [cC.j0]) ?_
  rw [cy (x:=-q) Q2 Q2,u64 (x:=-q) Q2 Q2,u64 (x:=p) Q2 Q2]
  exact eD Q3 (Ev.bind t1 (Ev.bind x1 (Ev.bind s1 (Ev.bind y1 (Ev.bind z1 (aX _))))))
 unfold cC.f
 by_cases c1:p<0
 ·obtain ⟨r,r1,r2⟩:=c Q2 Q2
  exact ⟨r,bC c1 r1,r2⟩
 by_cases c2:q>0
 ·obtain ⟨r,r1,r2⟩:=c Q2 Q2
  rw [decide_eq_true c2]
  exact ⟨r,eD c1 r1,r2⟩
 obtain ⟨r,r1,r2⟩:=d Q2 Q2
 rw [decide_eq_false c2]
 exact ⟨r,eD c1 r1,r2⟩
theorem J4 {p q x y T a b d:Int}:p*(T*x+a)+q*(T*y+b)=T*(p*x+q*y+q)+p*a+(q*b-q*T):=by grind
theorem J3 {p q x y T a b d:Int}:p*(T*x+a)+q*(T*y+b)=T*(p*x+q*y+p)+(p*a-p*T)+q*b:=by grind
theorem Es {p q x y T a b d:Int} (hT:0<T) (ha:0<=a/\a<T) (hb:0<=b/\b<T) (hs:(0<=p/\q<=0)∨(p<=0/\0<=q)) (h1:d<=p*x+q*y+p) (h2:d<=p*x+q*y+q):T*d<=p*(T*x+a)+q*(T*y+b):=by
 rcases hs with ⟨h3,h4⟩ | ⟨h3,h4⟩
 ·have k1:0<=p*a:=Int.mul_nonneg h3 ha.1
  have k2:q*T<=q*b:=Int.mul_le_mul_of_nonpos_left h4 Q2
  have k3:T*d<=T*(p*x+q*y+q):=Int.mul_le_mul_of_nonneg_left h2 Q2
  rw [J4 (d:=d)]
  omega
 have k1:0<=q*b:=Int.mul_nonneg h4 hb.1
 have k2:p*T<=p*a:=Int.mul_le_mul_of_nonpos_left h3 Q2
 have k3:T*d<=T*(p*x+q*y+p):=Int.mul_le_mul_of_nonneg_left h1 Q2
 rw [J3 (d:=d)]
 omega
theorem tA {k r:Int} (hk:0<=k/\k<=2147483648) (hr:-2147483648<=r/\r<=2147483648):-4611686018427387904<=k*r/\k*r<=4611686018427387904:=by
 have h1:k*r<=k*2147483648:=Int.mul_le_mul_of_nonneg_left hr.2 hk.1
 have h2:k*(-2147483648)<=k*r:=Int.mul_le_mul_of_nonneg_left hr.1 hk.1
 omega
theorem alg_l1 {p q r s x y k u v:Int} (hu:u=p*x+q*y) (hv:v=r*x+s*y):u-k*v=(p-k*r)*x+(q-k*s)*y:=by rw [hu,hv];grind
theorem J8 {p q r s n m k:Int}:(p-k*r)*n+(q-k*s)*m=(p*n+q*m)-k*(r*n+s*m):=by grind
theorem alg_l3 {p q r s n m k:Int}:((k+1)*r-p)*n+((k+1)*s-q)*m=(k+1)*(r*n+s*m)-(p*n+q*m):=by grind
theorem J7 {u p v r k:Int}:(u-k*v)+(p-k*r)=(u+p)-k*(v+r):=by grind
theorem J6 {x y p q r s u v k g h:Int} (hu:u=p*x+q*y) (hv:v=r*x+s*y):((k+1)*r-p)*x+((k+1)*s-q)*y+((k+1)*g-h)=(k+1)*(v+g)-(u+h):=by rw [hu,hv];grind
theorem xe {k A:Int}:(k+1)*A=k*A+A:=by grind
def Ao (n m:Int) (R:List Int×List Int×Bool):Prop:=R.2.2=true->∃ C D,Can WW R.1 C/\Can WW R.2.1 D/\gI C D=gI n m/\D<=C/\D<m/\C<=n
theorem GX {a b:List Int} {n m p q r s:Int} (la:a.length<1073741824) (lb:b.length<1073741824) (ha:Can WW a n) (hb:Can WW b m)
 (h1:(0<=p/\q<=0)∨(p<=0/\0<=q)) (h2:(0<=r/\s<=0)∨(r<=0/\0<=s))
 (bp:-2147483648<=p/\p<=2147483648) (bq:-2147483648<=q/\q<=2147483648) (br:-2147483648<=r/\r<=2147483648) (bs:-2147483648<=s/\s<=2147483648)
 (hA:0<=p*n+q*m) (hB:0<=r*n+s*m) (hg:gI (p*n+q*m) (r*n+s*m)=gI n m) (hn:p*n+q*m<=n) (hBA:r*n+s*m<=p*n+q*m) (hm:q≠0->r*n+s*m<m) :
 ∃ R,Ev (fun k=>bg.j2 k a b p q r s) R/\Ao n m R:=by
 by_cases c:q=0
 ·refine ⟨([],[],false),?_,fun h=>by simp at h⟩
  refine Ev.step (fun k=>by rw [bg.j2]) ?_
  exact bC c (aX _)
 obtain ⟨x,x1,x2⟩:=wQ la lb ha hb h1 Q2 Q2 hA
 obtain ⟨y,y1,y2⟩:=wQ la lb ha hb h2 Q2 Q2 hB
 refine ⟨(x,y,true),?_,fun _=>⟨_,_,x2,y2,hg,hBA,hm c,hn⟩⟩
 refine Ev.step (fun k=>by rw [bg.j2]) ?_
 exact eD c (Ev.bind x1 (Ev.bind y1 (aX _)))
theorem GW {a b:List Int} {n m x y T a' b':Int} (la:a.length<1073741824) (lb:b.length<1073741824) (ha:Can WW a n) (hb:Can WW b m) (hT:0<T) (hn:n=T*x+a') (hm:m=T*y+b') (ha':0<=a'/\a'<T) (hb':0<=b'/\b'<T) (c:Nat) :
 ∀ p q r s u v:Int,(v+r).toNat=c->u=p*x+q*y->v=r*x+s*y ->
 ((0<=p/\q<=0/\r<=0/\0<=s)∨(p<=0/\0<=q/\0<=r/\s<=0)) ->
 (0<=u+p/\u+p<=2147483648)->(0<=u+q/\u+q<=2147483648)->(0<=v+r/\v+r<=2147483648)->(0<=v+s/\v+s<=2147483648) ->
 gI (p*n+q*m) (r*n+s*m)=gI n m->r*n+s*m<=m->p*n+q*m<=n->r*n+s*m<=p*n+q*m->(q≠0->r*n+s*m<m)->m<=n ->
 ∃ R,Ev (fun k=>bg.l0 k a b p q r s u v) R/\Ao n m R:=by
 induction c using Nat.strongRecOn with
 | _ c ih =>
  intro p q r s u v hc hu hv hs bp bq br bs hg hBm hAn hBA hq hmn
  have hA:0<=p*n+q*m:=by
   have:=Es (p:=p) (q:=q) (x:=x) (y:=y) (d:=0) hT ha' hb' Q2 (by rw [<- hu];omega) (by rw [<- hu];omega)
   rw [hn,hm];omega
  have hB:0<=r*n+s*m:=by
   have:=Es (p:=r) (q:=s) (x:=x) (y:=y) (d:=0) hT ha' hb' Q2 (by rw [<- hv];omega) (by rw [<- hv];omega)
   rw [hn,hm];omega
  obtain ⟨R0,e1,e2⟩:=GX (p:=p) (q:=q) (r:=r) (s:=s) la lb ha hb Q2 Q2 Q2 Q2 Q2 Q2 hA hB hg hAn hBA hq
  have f:Ev (fun k=>bg.j1 k a b p q r s u v false) R0:=by
   refine Ev.step (fun k=>by rw [bg.j1]) ?_
   exact eD Q3 e1
  by_cases c1:v+r=0
  ·refine ⟨R0,?_,e2⟩
   refine Ev.step (fun k=>by rw [bg.l0]) ?_
   rw [cy (x:=v+r) Q2 Q2]
   exact bC c1 f
  by_cases c2:v+s=0
  ·refine ⟨R0,?_,e2⟩
   refine Ev.step (fun k=>by rw [bg.l0]) ?_
   rw [cy (x:=v+r) Q2 Q2,cy (x:=v+s) Q2 Q2,show (v+s != 0)=false by simp [c2]]
   exact eD c1 f
  have step:∀ R,Ev (fun k=>bg.j1 k a b p q r s u v true) R->Ev (fun k=>bg.l0 k a b p q r s u v) R:=by
   intro R h
   refine Ev.step (fun k=>by rw [bg.l0]) ?_
   rw [cy (x:=v+r) Q2 Q2,cy (x:=v+s) Q2 Q2,show (v+s != 0)=true by simp [c2]]
   exact eD c1 h
  have k0:0<=(u+p) / (v+r):=Int.ediv_nonneg Q2 Q2
  have k1:(u+p) / (v+r)<=u+p:=Int.ediv_le_self _ Q2
  have g0:0<=(u+q) / (v+s):=Int.ediv_nonneg Q2 Q2
  have g1:(u+q) / (v+s)<=u+q:=Int.ediv_le_self _ Q2
  have d1:=Int.mul_ediv_add_emod (u+p) (v+r)
  have d2:=Int.emod_nonneg (u+p) (show v+r≠0 by omega)
  have d3:=Int.emod_lt_of_pos (u+p) (show 0<v+r by omega)
  have f1:=Int.mul_ediv_add_emod (u+q) (v+s)
  have f2:=Int.emod_nonneg (u+q) (show v+s≠0 by omega)
  have f3:=Int.emod_lt_of_pos (u+q) (show 0<v+s by omega)
  generalize hk:(u+p) / (v+r)=K at k0 k1 d1
  generalize hk2:(u+q) / (v+s)=K2 at g0 g1 f1
  generalize (u+p) % (v+r)=w1 at d1 d2 d3
  generalize (u+q) % (v+s)=w2 at f1 f2 f3
  have e:∀ R,(K=K2->Ev (fun k=>bg.l0 k a b r s (p-K*r) (q-K*s) v (u-K*v)) R)->(K≠K2->Ev (fun k=>bg.j2 k a b p q r s) R)->Ev (fun k=>bg.j1 k a b p q r s u v true) R:=by
   intro R h1 h2
   refine Ev.step (fun k=>by rw [bg.j1]) ?_
   have m1:=tA (k:=K) (r:=r) ⟨k0,Q2⟩ Q2
   have m2:=tA (k:=K) (r:=s) ⟨k0,Q2⟩ Q2
   have m3:=tA (k:=K) (r:=v) ⟨k0,Q2⟩ Q2
   rw [cy (x:=v+r) Q2 Q2,cy (x:=v+s) Q2 Q2,cy (x:=u+p) Q2 Q2,cy (x:=u+q) Q2 Q2,fB (x:=u+p) Q2,fB (x:=u+q) Q2,hk,hk2,
    cy (x:=K) Q2 Q2,cy (x:=K2) Q2 Q2,cy (x:=K*r) Q2 Q2,cy (x:=K*s) Q2 Q2,cy (x:=K*v) Q2 Q2,cy (x:=p-K*r) Q2 Q2,cy (x:=q-K*s) Q2 Q2,cy (x:=u-K*v) Q2 Q2]
   refine bC rfl (eD c1 (eD c2 ?_))
   by_cases c3:K=K2
   ·exact bC c3 (h1 c3)
   exact eD c3 (h2 c3)
  by_cases c3:K=K2
  ·subst c3
   have s1:(u-K*v)+(p-K*r)=w1:=by rw [J7,Int.mul_comm K];omega
   have s2:(u-K*v)+(q-K*s)=w2:=by rw [J7,Int.mul_comm K];omega
   have sg:(0<=r/\s<=0/\p-K*r<=0/\0<=q-K*s)∨(r<=0/\0<=s/\0<=p-K*r/\q-K*s<=0):=by
    rcases hs with ⟨t1,t2,t3,t4⟩ | ⟨t1,t2,t3,t4⟩
    ·have i1:=Int.mul_nonpos_of_nonneg_of_nonpos k0 t3
     have i2:=Int.mul_nonneg k0 t4
     exact .inr ⟨t3,t4,Q2,Q2⟩
    have i1:=Int.mul_nonneg k0 t3
    have i2:=Int.mul_nonpos_of_nonneg_of_nonpos k0 t4
    exact .inl ⟨t3,t4,Q2,Q2⟩
   have lt:(p-K*r)*n+(q-K*s)*m<r*n+s*m:=by
    have i:=Es (p:=(K+1)*r-p) (q:=(K+1)*s-q) (x:=x) (y:=y) (d:=1) hT ha' hb' (by
     rw [xe,xe]
     omega) (by
     rw [J6 hu hv,xe,Int.mul_comm K]
     omega) (by
     rw [J6 hu hv,xe,Int.mul_comm K]
     omega)
    rw [<- hn,<- hm,alg_l3,xe] at i
    rw [J8]
    omega
   obtain ⟨R,r1,r2⟩:=ih (u-K*v+(p-K*r)).toNat (by rw [s1];omega) r s (p-K*r) (q-K*s) v (u-K*v) rfl hv (alg_l1 hu hv) sg Q2 Q2 Q2 Q2
    (by rw [J8,Jn];exact hg) Q2 Q2 Q2 (fun _=>Q2) hmn
   exact ⟨R,step R (e R (fun _=>r1) (fun h=>absurd rfl h)),r2⟩
  exact ⟨R0,step R0 (e R0 (fun h=>absurd h c3) (fun _=>e1)),e2⟩
theorem GV {a b:List Int} {n m:Int} (la:a.length<1073741824) (lb:b.length<1073741824) (hb2:2<b.length) (ha:Can WW a n) (hb:Can WW b m) (hmn:m<=n):∃ R,Ev (fun k=>bg.f k a b) R/\Ao n m R:=by
 have g:=kO ha hb hmn
 have n0:=ha.fT aH
 have m0:=hb.fT aH
 have mz:=hb.jj aH
 have m1:m≠0:=fun h=>by have:=mz.2 h;omega
 obtain ⟨A,A1,A2,A3,A4⟩:=uu Q2 ha
 obtain ⟨B,B1,B2,B3,B4⟩:=uu Q2 hb
 obtain ⟨A5,A6,A7,A8⟩:=A4 Q2
 clear A3 A4 B3 B4
 unfold bg.f
 rw [A1,B1]
 simp only [Option.bind_some]
 rw [cy (x:=(A:Int)-20) Q2 Q2,cy (x:=(A:Int)-31) Q2 Q2,show (A:Int)-31=((A-31:Nat):Int) by omega]
 by_cases c:(B:Int)<(A:Int)-20
 ·exact ⟨([],[],false),bC c (aX _),fun h=>by simp at h⟩
 obtain ⟨x,x1,x2,x3⟩:=qP (A-31) Q2 Q2 ha
 obtain ⟨y,y1,y2,y3⟩:=qP (A-31) Q2 Q2 hb
 have hT:=two_pos (A-31)
 have e:(2:Int) ^ A=2 ^ (A-31)*2147483648:=by
  rw [show (2147483648:Int)=2 ^ 31 by decide,<- Int.pow_add]
  congr 1
  omega
 rw [e] at A6
 clear e A5
 generalize (2:Int) ^ (A-31)=T at hT A6 x2 y2
 have q1:n / T<2147483648:=Int.ediv_lt_of_lt_mul hT (by rw [Int.mul_comm];exact A6)
 have q2:m / T<=n / T:=Int.ediv_le_ediv hT hmn
 have q3:0<=m / T:=Int.ediv_nonneg m0 Q2
 have d:WW ^ 2=18446744073709551616:=by decide
 have sx:=jP x2 (x2.gx (k:=2) bw Q2)
 have sy:=jP y2 (y2.gx (k:=2) bw Q2)
 have i1:=Int.emod_nonneg n (show T≠0 by omega)
 have i2:=Int.emod_lt_of_pos n hT
 have i3:=Int.emod_nonneg m (show T≠0 by omega)
 have i4:=Int.emod_lt_of_pos m hT
 have j1:=Int.mul_ediv_add_emod n T
 have j2:=Int.mul_ediv_add_emod m T
 obtain ⟨R,r1,r2⟩:=GW la lb ha hb hT j1.symm j2.symm ⟨i1,i2⟩ ⟨i3,i4⟩ _ 1 0 0 1 (n / T) (m / T) rfl Q2 Q2 Q2 Q2 Q2 Q2 Q2
  (by rw [Int.one_mul,Int.zero_mul,Int.zero_mul,Int.one_mul,Int.add_zero,Int.zero_add]) Q2 Q2 Q2 (fun h=>absurd rfl h) hmn
 refine ⟨R,eD c (Ev.bind x1 (jY sx (Ev.bind y1 (jY sy ?_)))),r2⟩
 show Ev (fun k=>bg.l0 k a b 1 0 0 1 (wrap64 (n / T)) (wrap64 (m / T))) R
 rw [cy (x:=n / T) Q2 Q2,cy (x:=m / T) Q2 Q2]
 exact r1
theorem Ed (c:Nat):∀ x y:Int,y.toNat=c->0<=x->x<18446744073709551616->0<=y->y<18446744073709551616->∃ r,Ev (fun k=>cd.l1 k x y) r/\Can WW r (gI x y):=by
 induction c using Nat.strongRecOn with
 | _ c ih =>
  intro x y hc x0 x1 y0 y1
  by_cases c1:y=0
  ·subst c1
   obtain ⟨r,r1,r2⟩:=gP x0 x1
   rw [uY x0]
   refine ⟨r,?_,r2⟩
   refine Ev.step (fun k=>by rw [cd.l1]) ?_
   exact bC rfl (Ev.bind r1 (aX _))
  have m0:=Int.emod_nonneg x (show y≠0 by omega)
  have m1:=Int.emod_lt_of_pos x (show 0<y by omega)
  obtain ⟨r,r1,r2⟩:=ih (x % y).toNat Q2 y (x % y) rfl y0 y1 m0 Q2
  rw [wE] at r2
  refine ⟨r,?_,r2⟩
  refine Ev.step (fun k=>by rw [cd.l1]) ?_
  rw [fG x0]
  exact eD c1 r1
theorem wg (c:Nat):∀ (a b:List Int) (n m:Int),m.toNat=c->a.length<1073741824->Can WW a n->Can WW b m->m<=n->∃ r,Ev (fun k=>cd.l0 k a b) r/\Can WW r (gI n m):=by
 induction c using Nat.strongRecOn with
 | _ c ih =>
  intro a b n m hc la ha hb hmn
  have d:=kO ha hb hmn
  have n0:=ha.fT aH
  have m0:=hb.fT aH
  have hz:=hb.jj aH
  have e:WW ^ 2=18446744073709551616:=by decide
  by_cases c1:2<b.length
  ·have mp:0<m:=by
    rcases Int.lt_or_le 0 m with h | h
    ·exact h
    have:=hz.2 Q2
    omega
   obtain ⟨R,r1,r2⟩:=GV la Q2 c1 ha hb hmn
   obtain ⟨x,y,f⟩:=R
   cases f with
   | true =>
    obtain ⟨C,D,s1,s2,s3,s4,s5,s6⟩:=r2 rfl
    have D0:=s2.fT aH
    have lc:=kO ha s1 s6
    obtain ⟨z,z1,z2⟩:=ih D.toNat Q2 x y C D rfl (by show x.length<_;have:x.length<=a.length:=lc;omega) s1 s2 s4
    rw [s3] at z2
    refine ⟨z,?_,z2⟩
    refine Ev.step (fun k=>by rw [cd.l0]) ?_
    exact bC Q2 (Ev.bind r1 (bC rfl z1))
   | false =>
    have q0:=Int.emod_nonneg n (show m≠0 by omega)
    have q1:=Int.emod_lt_of_pos n mp
    obtain ⟨q,r,d1,d2,d3⟩:=lM Q2 ha hb mp
    obtain ⟨z,z1,z2⟩:=ih (n % m).toNat Q2 b r m (n % m) rfl Q2 hb d3 Q2
    rw [wE] at z2
    refine ⟨z,?_,z2⟩
    refine Ev.step (fun k=>by rw [cd.l0]) ?_
    exact bC Q2 (Ev.bind r1 (eD Q3 (Ev.bind d1 z1)))
  by_cases c2:b.length=0
  ·rw [hz.1 c2,uY n0]
   refine ⟨a,?_,ha⟩
   refine Ev.step (fun k=>by rw [cd.l0]) ?_
   exact eD Q2 (bC Q2 (bC (by simp;omega) (aX _)))
  have mp:0<m:=by
   rcases Int.lt_or_le 0 m with h | h
   ·exact h
   have:=hz.2 Q2
   omega
  have q0:=Int.emod_nonneg n (show m≠0 by omega)
  have q1:=Int.emod_lt_of_pos n mp
  obtain ⟨q,r,d1,d2,d3⟩:=lM Q2 ha hb mp
  have g:=hb.lt aH
  have h4:=fj (B:=WW) (by decide) (show b.length<=2 by omega)
  have l3:=d3.gx (k:=2) bw Q2
  have e1:=jP hb Q2
  have e2:=jP d3 l3
  obtain ⟨z,z1,z2⟩:=Ed _ m (n % m) rfl m0 Q2 q0 Q2
  rw [wE] at z2
  refine ⟨z,?_,z2⟩
  refine Ev.step (fun k=>by rw [cd.l0]) ?_
  exact eD Q2 (eD Q2 (Ev.bind d1 (jY e1 (jY e2 z1))))
theorem Ek {a b:List Int} {n m:Int} (la:a.length<1073741824) (lb:b.length<1073741824) (ha:Can WW a n) (hb:Can WW b m):∃ r,Ev (fun k=>cd.f k a b) r/\Can WW r (gI n m):=by
 have hc:=qQ Q2 ha hb
 unfold cd.f
 by_cases c:n<m
 ·obtain ⟨r,r1,r2⟩:=wg _ b a m n rfl lb hb ha Q2
  rw [Lm] at r2
  refine ⟨r,Ev.bind hc (bC ?_ ?_),r2⟩
  ·unfold dD;rw [if_pos c];omega
  exact Ev.step (fun k=>by rw [cd.j0]) r1
 obtain ⟨r,r1,r2⟩:=wg _ a b n m rfl la ha hb Q2
 refine ⟨r,Ev.bind hc (eD ?_ ?_),r2⟩
 ·unfold dD;rw [if_neg c];split<;>omega
 exact Ev.step (fun k=>by rw [cd.j0]) r1
def sv (s:ByteArray):Nat->Int
 | 0=>0
 | i+1=>sv s i*10+(bt s (i:Int)-48)
end Go.Proofs.YtfbgaddecbiimaaGreatDoor.P
end
section
namespace Go.Proofs.YtfbgaddecbiimaaGreatDoor.Q
open Go.RowKit Go.Proofs.YtfbgaddecbiimaaGreatDoorW.PrintWords Go.Proofs.YtfbgaddecbiimaaGreatDoorW.PrintMore Go.Proofs.YtfbgaddecbiimaaGreatDoor.V Go.Proofs.YtfbgaddecbiimaaGreatDoor.E
open Go.Proofs.YtfbgaddecbiimaaGreatDoor.P (Dg Nm vl WW RR bu gI aX jq jY dD aH bw)
theorem bT {α:Type} {c:Bool} {f g:Nat->Option α} {r:α} (hc:c=true) (h:Ev f r):Ev (fun k=>bif c then f k else g k) r:=by subst hc;exact h
theorem bF {α:Type} {c:Bool} {f g:Nat->Option α} {r:α} (hc:c=false) (h:Ev g r):Ev (fun k=>bif c then f k else g k) r:=by subst hc;exact h
theorem iT {α:Type} {c:Prop} [Decidable c] {f:Nat->Option α} {r:α} (hc:c) (h:Ev f r):Ev (fun k=>if c then f k else none) r:=by simpa only [if_pos hc] using h
theorem evmap {α β:Type} {f:Nat->Option α} {g:α->β} {r:α} (h:Ev f r):Ev (fun k=>(f k).map g) (g r):=by
 obtain ⟨K,h⟩:=h
 exact ⟨K,fun k hk=>by simp only [h k hk,Option.map_some]⟩
def sg (s:Bool) (x:Int):Int:=if s then -x else x
def RB (B:Int) (v:bJ) (q:Rat):Prop:=v.1=decide (q.num<0)/\P.Can B v.2.1 (q.num.natAbs:Int)/\P.Can B v.2.2.1 (q.den:Int)
theorem CQ {B:Int} (h:1<B):P.Can B [1] 1:=⟨Dg.mk (by decide) h (Dg.nil _),fun h=>Q3,by simp [vl]⟩
theorem Fi {B:Int} (h:1<B):RB B (false,[],[1],()) 0:=⟨rfl,P.Can.zero B,CQ h⟩
theorem zk {B:Int} (h:1<B):RB B (false,[1],[1],()) 1:=⟨rfl,CQ h,CQ h⟩
theorem Fj {B:Int} (hB:0<B) {v w:bJ} {q:Rat} (hv:RB B v q) (hw:RB B w q):v=w:=by
 obtain ⟨a,b,c,d⟩:=v
 obtain ⟨a',b',c',d'⟩:=w
 obtain ⟨h1,h2,h3⟩:=hv
 obtain ⟨g1,g2,g3⟩:=hw
 have e1:a=a':=h1.trans g1.symm
 have e2:b=b':=bu hB h2 g2
 have e3:c=c':=bu hB h3 g3
 subst e1 e2 e3
 rfl
theorem FO (x y:Int):((y.gcd x:Nat):Int)=gI x y:=by unfold gI;rw [Int.gcd_comm]
theorem rG {B:Int} {s:Bool} {l d:List Int} {x y:Int} (hx:0<x) (hy:0<y) (hl:P.Can B l (x / gI x y)) (hd:P.Can B d (y / gI x y)):RB B (s,l,d,()) (Rat.divInt (sg s x) y):=by
 have hg:0<gI x y:=by
  unfold gI
  have:=Int.gcd_pos_of_ne_zero_left y (show x≠0 by omega)
  omega
 have c:gI x y ∣ x:=Int.gcd_dvd_left ..
 have f:gI x y ∣ y:=Int.gcd_dvd_right ..
 have hq:0<x / gI x y:=Int.ediv_pos_of_pos_of_dvd hx Q2 c
 have hr:0<y / gI x y:=Int.ediv_pos_of_pos_of_dvd hy Q2 f
 have b:((y.gcd (sg s x):Nat):Int)=gI x y:=by
  unfold sg
  cases s with
  | true=>simp only [if_true,Int.gcd_neg];exact FO x y
  | false=>exact FO x y
 have a:(Rat.divInt (sg s x) y).num=sg s (x / gI x y):=by
  rw [Rat.num_divInt,b,Int.sign_eq_one_of_pos hy,Int.one_mul]
  unfold sg
  cases s with
  | true=>simp only [if_true];exact Int.neg_ediv_of_dvd c
  | false=>rfl
 have e:((Rat.divInt (sg s x) y).den:Int)=y / gI x y:=by
  rw [Rat.den_divInt,if_neg Q2,Int.natCast_ediv,b]
  congr 1
  omega
 refine ⟨?_,?_,?_⟩
 ·show s=_
  rw [a]
  unfold sg
  cases s with
  | true=>simp only [if_true];exact (decide_eq_true Q2).symm
  | false=>exact (decide_eq_false (by simp;omega)).symm
 ·show P.Can B l _
  rw [a]
  have:((sg s (x / gI x y)).natAbs:Int)=x / gI x y:=by
   unfold sg
   cases s with
   | true=>simp only [if_true];omega
   | false=>simp;omega
  rw [this]
  exact hl
 show P.Can B d _
 rw [e]
 exact hd
theorem yx (s:Bool) (y:Int):Rat.divInt (sg s 0) y=0:=by unfold sg;cases s<;>simp
theorem Iw {B:Int} {v:bJ} {q:Rat} (h:RB B v q):Rat.divInt (sg v.1 q.num.natAbs) q.den=q:=by
 have:sg v.1 q.num.natAbs=q.num:=by
  unfold sg
  rw [h.1]
  by_cases c:q.num<0
  ·rw [if_pos (decide_eq_true c)];omega
  rw [if_neg (by simpa using c)];omega
 rw [this,Rat.num_divInt_den]
theorem lG {B:Int} {v:bJ} {q:Rat} (h:RB B v q):sg v.1 q.num.natAbs=q.num:=by
 unfold sg
 rw [h.1]
 by_cases c:q.num<0
 ·rw [if_pos (decide_eq_true c)];omega
 rw [if_neg (by simpa using c)];omega
theorem e9 (q:Rat):(0:Int)<q.den:=by have:=q.den_pos;omega
def Sz (B:Int) (K:Nat) (q:Rat):Prop:=(q.num.natAbs:Int)<B ^ K/\(q.den:Int)<B ^ K
theorem xF {B:Int} (hB:0<B) {v:bJ} {q:Rat} (h:RB B v q) {K:Nat} (h1:v.2.1.length<=K) (h2:v.2.2.1.length<=K):Sz B K q :=
 ⟨Int.lt_of_lt_of_le (h.2.1.lt hB) (P.fj Q2 h1),Int.lt_of_lt_of_le (h.2.2.lt hB) (P.fj Q2 h2)⟩
theorem ij {B:Int} (hB:1<B) {v:bJ} {q:Rat} (h:RB B v q) {K:Nat} (hs:Sz B K q):v.2.1.length<=K/\v.2.2.1.length<=K:=⟨h.2.1.gx hB hs.1,h.2.2.gx hB hs.2⟩
theorem pL {B:Int} (hB:0<B) {q:Rat} {K L:Nat} (hs:Sz B K q) (h:K<=L):Sz B L q:=⟨Int.lt_of_lt_of_le hs.1 (P.fj Q2 h),Int.lt_of_lt_of_le hs.2 (P.fj Q2 h)⟩
theorem E4 {B:Int} {s:Bool} {x y:Int} {K:Nat} (hx:0<=x) (hy:0<y) (h1:x<B ^ K) (h2:y<B ^ K):Sz B K (Rat.divInt (sg s x) y):=by
 have a:(sg s x).natAbs=x.natAbs:=by unfold sg;cases s<;>simp
 constructor
 ·rw [Rat.num_divInt,Int.sign_eq_one_of_pos hy,Int.one_mul]
  have:((sg s x) / ((y.gcd (sg s x):Nat):Int)).natAbs<=(sg s x).natAbs:=by
   rw [Int.natAbs_ediv_of_dvd (Int.gcd_dvd_right ..)]
   exact Nat.div_le_self ..
  omega
 rw [Rat.den_divInt,if_neg Q2]
 have:y.natAbs / (y.gcd (sg s x))<=y.natAbs:=Nat.div_le_self ..
 omega
open Go.Proofs.YtfbgaddecbiimaaGreatDoor.P (cy u64)
section
variable {a b:List Int} {n m:Int}
theorem Bv (hn:a.length+b.length<1099511627776) (ha:P.Can WW a n) (hb:P.Can WW b m):∃ r,Ev (fun k=>bI k a b) r/\P.Can WW r (n*m)/\r.length<=a.length+b.length:=by
 obtain ⟨r,h1,h2⟩:=P.kF hn ha hb
 exact ⟨r,Ev.step (fun k=>Ej k a b) h1,h2⟩
theorem q_Add (hla:a.length<1099511627776) (hlb:b.length<1099511627776) (ha:P.Can WW a n) (hb:P.Can WW b m):∃ r,Ev (fun k=>di k a b) r/\P.Can WW r (n+m)/\r.length<=max a.length b.length+1:=by
 obtain ⟨r,h1,h2⟩:=P.Eo hla hlb ha hb
 exact ⟨r,Ev.step (fun k=>Er k a b) h1,h2⟩
theorem q_Sub (hn:a.length<1099511627776) (ha:P.Can WW a n) (hb:P.Can WW b m) (hle:m<=n):∃ r,Ev (fun k=>dJ k a b) r/\P.Can WW r (n-m)/\r.length<=a.length:=by
 obtain ⟨r,h1,h2⟩:=P.qO hn ha hb hle
 exact ⟨r,Ev.step (fun k=>Ef k a b) h1,h2⟩
theorem q_Cmp (hn:a.length<4611686018427387904) (ha:P.Can WW a n) (hb:P.Can WW b m):Ev (fun k=>dP k a b) (dD n m):=Ev.step (fun k=>En k a b) (P.qQ hn ha hb)
theorem q_GCD (la:a.length<1073741824) (lb:b.length<1073741824) (ha:P.Can WW a n) (hb:P.Can WW b m):∃ r,Ev (fun k=>cd k a b) r/\P.Can WW r (gI n m):=by
 obtain ⟨r,h1,h2⟩:=P.Ek la lb ha hb
 exact ⟨r,Ev.step (fun k=>El k a b) h1,h2⟩
theorem Bw (hn:a.length<17179869184) (ha:P.Can WW a n) (hb:P.Can WW b m) (hm:0<m):∃ q r,Ev (fun k=>aI k a b) (q,r,())/\P.Can WW q (n / m)/\P.Can WW r (n % m):=by
 obtain ⟨q,r,h1,h2⟩:=P.lM hn ha hb hm
 exact ⟨q,r,Ev.step (fun k=>xx k a b) (evmap (g:=fun r:List Int×List Int=>(r.1,r.2,())) h1),h2⟩
theorem FM {x y:Int} (hy:0<y):0<gI x y:=by
 unfold P.gI
 have:=Int.gcd_pos_of_ne_zero_right x (show y≠0 by omega)
 omega
theorem KU {l:List Int} {z:Int} (h:P.Can WW l z) (hz:0<z) (h1:z≠1):(bif (List.length l:Int) != (1:Int) then some true else if 0<=(0:Int)/\(0:Int)<(List.length l:Int) then some ((cE (t:=(.int .u32)) l (0:Int):Int) != (1:Int)) else none)=some true:=by
 match l,h with
 | [],h=>rfl
 | [x],h =>
  have hx:x=z:=by have:=h.2.2;simp [vl] at this;exact this
  have hr:(cE (t:=(.int .u32)) [x] (0:Int):Int)=x:=rfl
  rw [hr]
  have:(x != (1:Int))=true:=by simp;omega
  rw [this]
  simp
 | x :: y :: t,h =>
  have:((List.length (x :: y :: t):Int) != (1:Int))=true:=by simp;omega
  rw [this]
  rfl
theorem I0 {l:List Int} {z:Int} (h:P.Can WW l z) (hz:z=1):(bif (List.length l:Int) != (1:Int) then some true else if 0<=(0:Int)/\(0:Int)<(List.length l:Int) then some ((cE (t:=(.int .u32)) l (0:Int):Int) != (1:Int)) else none)=some false:=by
 subst hz
 rw [bu aH h (CQ bw)]
 rfl
theorem BP:Ev (fun k=>oO k) (false,[],[1],()):=Ev.step (fun k=>BQ k) (aX _)
theorem mY {B:Int} (hB:0<B) {l:List Int} {x:Int} (h:P.Can B l x) (hx:x≠0):((List.length l:Int)==(0:Int))=false:=by
 have:=h.jj hB
 have:l.length≠0:=fun e=>hx (this.1 e)
 simp
 intro e
 exact this (by simp [e])
theorem Eu {B:Int} (hB:0<B) {l:List Int} {x:Int} (h:P.Can B l x) (hx:x=0):l=[]:=(h.zC hB).2 hx
theorem jW {s:Bool} (la:a.length<1073741824) (lb:b.length<1073741824) (ha:P.Can WW a n) (hb:P.Can WW b m) (hm:0<m):∃ r,Ev (fun k=>eo k s a b) r/\RB WW r (Rat.divInt (sg s n) m):=by
 have n0:=ha.fT aH
 by_cases hn:n=0
 ·obtain rfl:=Eu aH ha hn
  refine ⟨_,Ev.step (fun k=>oQ k s [] b) (bT rfl (Ev.bind BP (aX _))),?_⟩
  rw [hn,yx]
  exact Fi bw
 obtain ⟨g,g1,g2⟩:=q_GCD la lb ha hb
 have gp:=FM (x:=n) hm
 have c:∀ {u v:List Int},u.length<=a.length->v.length<=b.length->P.Can WW u (n / gI n m)->P.Can WW v (m / gI n m)->Ev (fun k=>eo.j0 k s u v (false,[],[],())) (s,u,v,()):=fun h1 h2 _ _=>by
  unfold eo.j0
  exact iT Q2 (iT Q2 (aX _))
 by_cases h1:gI n m=1
 ·have e1:n / gI n m=n:=by rw [h1];omega
  have e2:m / gI n m=m:=by rw [h1];omega
  have ca:P.Can WW a (n / gI n m):=by rw [e1];exact ha
  have cb:P.Can WW b (m / gI n m):=by rw [e2];exact hb
  exact ⟨_,Ev.step (fun k=>oQ k s a b) (bF (mY aH ha hn) (Ev.bind g1 (Ev.bind (jq (I0 g2 h1)) (bF rfl (c (Nat.le_refl _) (Nat.le_refl _) ca cb))))),rG Q2 hm ca cb⟩
 obtain ⟨u,u',u1,u2,u3⟩:=Bw Q2 ha g2 gp
 obtain ⟨v,v',v1,v2,v3⟩:=Bw Q2 hb g2 gp
 have lu:u.length<=a.length:=u2.gx bw (Int.lt_of_le_of_lt (Int.ediv_le_self _ n0) (ha.lt aH))
 have lv:v.length<=b.length:=v2.gx bw (Int.lt_of_le_of_lt (Int.ediv_le_self _ Q2) (hb.lt aH))
 exact ⟨_,Ev.step (fun k=>oQ k s a b) (bF (mY aH ha hn) (Ev.bind g1 (Ev.bind (jq (KU g2 gp h1)) (bT rfl (Ev.bind u1 (Ev.bind v1 (c lu lv u2 v2))))))),rG Q2 hm u2 v2⟩
end
section
variable {v w:bJ} {p q:Rat} {K L:Nat}
theorem Ij (s t:Bool) (x y:Int):sg (s != t) (x*y)=sg s x*sg t y:=by
 unfold sg
 cases s<;>cases t<;>simp [Int.neg_mul,Int.mul_neg]
theorem mN (s:Bool) (x y:Int):sg s x*y=sg s (x*y):=by
 unfold sg
 cases s<;>simp [Int.neg_mul]
theorem gn {x y:Int} (hx:0<x) (hy:0<y):0<x*y:=Int.mul_pos hx hy
theorem D8 (hv:RB WW v p) (hw:RB WW w q) (hp:Sz WW K p) (hq:Sz WW L q) (h:K+L<1073741824):∃ r,Ev (fun k=>sb k v w) r/\RB WW r (p*q)/\Sz WW (K+L) (p*q):=by
 obtain ⟨c,a⟩:=ij bw hv hp
 obtain ⟨d,b⟩:=ij bw hw hq
 obtain ⟨x,x1,x2,x3⟩:=Bv Q2 hv.2.1 hw.2.1
 obtain ⟨y,y1,y2,y3⟩:=Bv Q2 hv.2.2 hw.2.2
 have hd:(0:Int)<(p.den:Int)*q.den:=gn (e9 p) (e9 q)
 obtain ⟨r,r1,r2⟩:=jW (s:=v.1 != w.1) Q2 Q2 x2 y2 hd
 have e:Rat.divInt (sg (v.1 != w.1) ((p.num.natAbs:Int)*q.num.natAbs)) ((p.den:Int)*q.den)=p*q:=by
  rw [Ij,lG hv,lG hw,<- Rat.divInt_mul_divInt,Rat.num_divInt_den,Rat.num_divInt_den]
 have hs:Sz WW (K+L) (p*q):=by
  rw [<- e]
  refine E4 (Int.mul_nonneg Q2 Q2) hd ?_ ?_
  ·exact Int.lt_of_lt_of_le (x2.lt aH) (P.fj (by decide) Q2)
  exact Int.lt_of_lt_of_le (y2.lt aH) (P.fj (by decide) Q2)
 rw [e] at r2
 exact ⟨r,Ev.step (fun k=>D9 k v w) (Ev.bind x1 (Ev.bind y1 (Ev.bind r1 (aX _)))),r2,hs⟩
theorem Af {s t:Bool} (h:¬ s=t):(s==t)=false:=by cases s<;>cases t<;>simp_all
theorem yk {x y d:List Int} {X Y D:Int} {s t:Bool} {u u' c:bJ} (hu:u.1=s) (hu':u'.1=t) (lx:x.length<536870912) (ly:y.length<536870912) (ld:d.length<1073741824) (hx:P.Can WW x X) (hy:P.Can WW y Y) (hd:P.Can WW d D) (hD:0<D) :
 ∃ r,Ev (fun k=>gC.j0 k x y d u u' c) r/\RB WW r (Rat.divInt (sg s X+sg t Y) D):=by
 by_cases hst:s=t
 ·obtain ⟨z,z1,z2,z3⟩:=q_Add Q2 Q2 hx hy
  obtain ⟨r,r1,r2⟩:=jW (s:=s) Q2 ld z2 hd hD
  refine ⟨r,?_,?_⟩
  ·unfold gC.j0
   rw [hu,hu']
   exact bT (by subst hst;simp) (Ev.bind z1 (Ev.bind r1 (aX _)))
  have:sg s X+sg t Y=sg s (X+Y):=by subst hst;unfold sg;cases s<;>simp<;>omega
  rw [this]
  exact r2
 have hc:=q_Cmp Q2 hx hy
 by_cases hxy:Y<=X
 ·obtain ⟨z,z1,z2,z3⟩:=q_Sub Q2 hx hy hxy
  obtain ⟨r,r1,r2⟩:=jW (s:=s) Q2 ld z2 hd hD
  refine ⟨r,?_,?_⟩
  ·unfold gC.j0
   rw [hu,hu']
   refine bF (Af hst) (Ev.bind hc (bT (decide_eq_true ?_) (Ev.bind z1 (Ev.bind r1 (aX _)))))
   unfold P.dD
   split
   ·omega
   split<;>omega
  have:sg s X+sg t Y=sg s (X-Y):=by
   unfold sg
   cases s<;>cases t<;>simp at hst ⊢<;>omega
  rw [this]
  exact r2
 obtain ⟨z,z1,z2,z3⟩:=q_Sub Q2 hy hx Q2
 obtain ⟨r,r1,r2⟩:=jW (s:=t) Q2 ld z2 hd hD
 refine ⟨r,?_,?_⟩
 ·unfold gC.j0
  rw [hu,hu']
  refine bF (Af hst) (Ev.bind hc (bF (decide_eq_false ?_) (Ev.bind z1 (Ev.bind r1 (aX _)))))
  unfold P.dD
  rw [if_pos Q2]
  omega
 have:sg s X+sg t Y=sg t (Y-X):=by
  unfold sg
  cases s<;>cases t<;>simp at hst ⊢<;>omega
 rw [this]
 exact r2
theorem pD (p q:Rat):p+q=Rat.divInt (p.num*q.den+q.num*p.den) ((p.den:Int)*q.den):=by
 have h:=Rat.divInt_add_divInt p.num q.num (d₁:=(p.den:Int)) (d₂:=(q.den:Int)) (by have:=e9 p;omega) (by have:=e9 q;omega)
 rw [Rat.num_divInt_den,Rat.num_divInt_den] at h
 exact h
theorem Hu (p q:Rat) (h:p.den=q.den):p+q=Rat.divInt (p.num+q.num) (p.den:Int):=by
 rw [pD,<- h,<- Int.add_mul]
 exact Rat.divInt_mul_right (by have:=e9 p;omega)
theorem sz_add (hp:Sz WW K p) (hq:Sz WW L q):Sz WW (K+L+1) (p+q):=by
 have hK:(0:Int)<WW ^ K:=Int.pow_pos (by decide)
 have hL:(0:Int)<WW ^ L:=Int.pow_pos (by decide)
 have e:(WW:Int) ^ (K+L+1)=WW ^ K*WW ^ L*4294967296:=by rw [Int.pow_succ,Int.pow_add]
 obtain ⟨p1,p2⟩:=hp
 obtain ⟨q1,q2⟩:=hq
 have dp:=e9 p
 have dq:=e9 q
 have a1:(p.num.natAbs:Int)*q.den<=WW ^ K*WW ^ L:=Int.mul_le_mul Q2 Q2 Q2 Q2
 have a2:(q.num.natAbs:Int)*p.den<=WW ^ L*WW ^ K:=Int.mul_le_mul Q2 Q2 Q2 Q2
 have a3:(p.den:Int)*q.den<=WW ^ K*WW ^ L:=Int.mul_le_mul Q2 Q2 Q2 Q2
 rw [Int.mul_comm (WW ^ L)] at a2
 have a:(0:Int)<WW ^ K*WW ^ L:=gn hK hL
 have hn:((p.num*q.den+q.num*p.den).natAbs:Int)<=(p.num.natAbs:Int)*q.den+(q.num.natAbs:Int)*p.den:=by
  have h1:=Int.natAbs_add_le (p.num*q.den) (q.num*p.den)
  rw [Int.natAbs_mul,Int.natAbs_mul] at h1
  simp only [Int.natAbs_natCast] at h1
  have:((p.num.natAbs*q.den+q.num.natAbs*p.den:Nat):Int)=(p.num.natAbs:Int)*q.den+(q.num.natAbs:Int)*p.den:=by
   rw [Int.natCast_add,Int.natCast_mul,Int.natCast_mul]
  omega
 rw [pD]
 constructor
 ·rw [Rat.num_divInt,Int.sign_eq_one_of_pos (gn dp dq),Int.one_mul]
  have:((p.num*q.den+q.num*p.den) / ((((p.den:Int)*q.den).gcd (p.num*q.den+q.num*p.den):Nat):Int)).natAbs<=(p.num*q.den+q.num*p.den).natAbs:=by
   rw [Int.natAbs_ediv_of_dvd (Int.gcd_dvd_right ..)]
   exact Nat.div_le_self ..
  omega
 rw [Rat.den_divInt,if_neg (by have:=gn dp dq;omega)]
 have:((p.den:Int)*q.den).natAbs / (((p.den:Int)*q.den).gcd (p.num*q.den+q.num*p.den))<=((p.den:Int)*q.den).natAbs:=Nat.div_le_self ..
 have:=gn dp dq
 omega
theorem vW (hv:RB WW v p) (hw:RB WW w q) (hp:Sz WW K p) (hq:Sz WW L q) (h:K+L<268435456):∃ r,Ev (fun k=>gC k v w) r/\RB WW r (p+q)/\Sz WW (K+L+1) (p+q):=by
 obtain ⟨f,a⟩:=ij bw hv hp
 obtain ⟨e,b⟩:=ij bw hw hq
 have hc:=q_Cmp Q2 hv.2.2 hw.2.2
 refine (show ∃ r,Ev (fun k=>gC k v w) r/\RB WW r (p+q) from ?_).elim fun r hr=>⟨r,hr.1,hr.2,sz_add hp hq⟩
 by_cases hd:(p.den:Int)=q.den
 ·obtain ⟨r,r1,r2⟩:=yk (c:=(false,[],[],())) (u:=v) (u':=w) rfl rfl Q2 Q2 Q2 hv.2.1 hw.2.1 hv.2.2 (e9 p)
  rw [lG hv,lG hw,<- Hu p q Q2] at r2
  refine ⟨r,Ev.step (fun k=>vX k v w) (Ev.bind hc (bF ?_ r1)),r2⟩
  unfold P.dD
  rw [if_neg Q2,if_pos hd]
  rfl
 obtain ⟨x,x1,x2,x3⟩:=Bv Q2 hv.2.1 hw.2.2
 obtain ⟨y,y1,y2,y3⟩:=Bv Q2 hw.2.1 hv.2.2
 obtain ⟨d,d1,d2,d3⟩:=Bv Q2 hv.2.2 hw.2.2
 obtain ⟨r,r1,r2⟩:=yk (c:=(false,[],[],())) (u:=v) (u':=w) rfl rfl Q2 Q2 Q2 x2 y2 d2 (gn (e9 p) (e9 q))
 rw [<- mN,<- mN,lG hv,lG hw,<- pD p q] at r2
 refine ⟨r,Ev.step (fun k=>vX k v w) (Ev.bind hc (bT ?_ (Ev.bind x1 (Ev.bind y1 (Ev.bind d1 r1))))),r2⟩
 unfold P.dD
 split
 ·rfl
 rfl
end
section
variable {v w:bJ} {p q:Rat} {K L:Nat}
theorem ur (hv:RB WW v p) (hp:Sz WW K p) (h:K<1073741824):Ev (fun k=>se k v) v:=by
 obtain ⟨d,c⟩:=ij bw hv hp
 obtain ⟨s,a,b,_⟩:=v
 exact Ev.step (fun k=>BT k _) (iT (by simp at d ⊢;omega) (iT (by simp at c ⊢;omega) (aX _)))
def Dx (q:Rat):Int:=if q<0 then -1 else if q=0 then 0 else 1
theorem lg {q:Rat}:q.num<0↔q<0:=by
 rw [Rat.lt_iff]
 simp
theorem FG {B:Int} (hB:0<B) (hv:RB B v p):((List.length v.2.1:Int)==(0:Int))=decide (p=0):=by
 by_cases c:p=0
 ·rw [Eu hB hv.2.1 (by rw [c];rfl),decide_eq_true c]
  rfl
 rw [decide_eq_false c]
 exact mY hB hv.2.1 (fun e=>c (Rat.num_eq_zero.1 Q2))
theorem oP (hv:RB WW v p):Ev (fun k=>iB k v) (Dx p):=by
 refine Ev.step (fun k=>lj k v) ?_
 rw [FG aH hv,hv.1]
 unfold Dx
 by_cases c:p=0
 ·refine bT (decide_eq_true c) ?_
  rw [if_neg (by rw [c];exact Rat.lt_irrefl),if_pos c]
  exact aX _
 refine bF (decide_eq_false c) ?_
 by_cases d:p<0
 ·rw [if_pos d]
  exact bT (decide_eq_true (lg.2 d)) (aX _)
 rw [if_neg d,if_neg c]
 exact bF (decide_eq_false (fun e=>d (lg.1 e))) (aX _)
theorem Ii (p:Rat):(Dx p = -1/\p<0)∨(Dx p=0/\p=0)∨(Dx p=1/\0<p):=by
 unfold Dx
 by_cases c:p<0
 ·exact .inl ⟨if_pos c,c⟩
 by_cases d:p=0
 ·exact .inr (.inl ⟨by rw [if_neg c,if_pos d],d⟩)
 exact .inr (.inr ⟨by rw [if_neg c,if_neg d],Rat.lt_of_le_of_ne (Rat.not_lt.1 c) (Ne.symm d)⟩)
end
section
variable {v w:bJ} {p q:Rat} {K L:Nat}
theorem EG (x:Int):Rat.divInt x 1=(x:Rat):=by rw [Rat.divInt_eq_div];simp;grind
theorem D6:Ev (fun k=>zB k) (false,[1],[1],()):=by
 obtain ⟨x,x1,x2⟩:=P.gP (a:=1) (by decide) (by decide)
 obtain rfl:=bu aH x2 (CQ bw)
 obtain ⟨r,r1,r2⟩:=jW (s:=false) Q3 Q3 (CQ bw) (CQ bw) (by decide)
 have e:Rat.divInt (sg false 1) 1=1:=by rw [EG];rfl
 rw [e] at r2
 rw [Fj aH (zk bw) r2]
 refine Ev.step (fun k=>D7 k) (Ev.bind (Ev.step (fun k=>Ea k 1) (bF (by decide) (Ev.bind (Ev.step (fun k=>B9 k _) (by rw [u64 (by decide) (by decide)];exact x1)) (Ev.bind r1 (aX _))))) (aX _))
theorem HZ {B:Int} (h:1<B) {K:Nat} (hK:1<=K):Sz B K 1:=pL Q2 (xF Q2 (zk h) (K:=1) Q3 Q3) hK
end
open Go.Proofs.YtfbgaddecbiimaaGreatDoor.P (aW)
def aL {α:Type} (g:Nat->Nat->Option α) (r:α):Prop:=∃ K,∀ k m,K<=k->K<=m->g k m=some r
section
variable {α β:Type} {g f:Nat->Nat->Option α} {r:α}
theorem aL.diag (h:aL g r):Ev (fun k=>g k k) r:=by
 obtain ⟨K,h⟩:=h
 exact ⟨K,fun k hk=>h k k hk hk⟩
theorem aL.step (h:∀ k m,g k (m+1)=f k m) (k:aL f r):aL g r:=by
 obtain ⟨K,k⟩:=k
 refine ⟨K+1,fun n m hn hm=>?_⟩
 obtain ⟨q,rfl⟩:∃ q,m=q+1:=⟨m-1,Q2⟩
 rw [h]
 exact k n q Q2 Q2
theorem aL.bind {g:Nat->Option β} {f:Nat->Nat->β->Option α} {a:β} (h:Ev g a) (k:aL (fun n m=>f n m a) r):aL (fun n m=>(g n).bind (f n m)) r:=by
 obtain ⟨K,h⟩:=h
 obtain ⟨K',k⟩:=k
 refine ⟨max K K',fun n m hn hm=>?_⟩
 have h1:=h n Q2
 simp only [h1,Option.bind_some]
 exact k n m Q2 Q2
theorem aL.bT {c:Bool} (hc:c=true) (h:aL f r):aL (fun k m=>bif c then f k m else g k m) r:=by subst hc;exact h
theorem aL.bF {c:Bool} (hc:c=false) (h:aL g r):aL (fun k m=>bif c then f k m else g k m) r:=by subst hc;exact h
theorem aL.iT {c:Prop} [Decidable c] (hc:c) (h:aL f r):aL (fun k m=>if c then f k m else none) r:=by simpa only [if_pos hc] using h
theorem aL.of {g:Nat->Option α} (h:Ev g r):aL (fun k _=>g k) r:=by
 obtain ⟨K,h⟩:=h
 exact ⟨K,fun k m hk _=>h k hk⟩
end
theorem cD:(1:Int)<RR:=by decide
section
variable {a b:List Int} {n m:Int}
theorem Bg (hn:a.length+b.length<68719476736) (ha:P.Can RR a n) (hb:P.Can RR b m):∃ r,Ev (fun k=>ax k a b) r/\P.Can RR r (n*m)/\r.length<=a.length+b.length:=by
 obtain ⟨r,h1,h2⟩:=P.IA hn ha hb
 exact ⟨r,Ev.step (fun k=>nX k a b) h1,h2⟩
theorem s_Add (hn:a.length+b.length<68719476736) (ha:P.Can RR a n) (hb:P.Can RR b m):∃ r,Ev (fun k=>az k a b) r/\P.Can RR r (n+m)/\r.length<=max a.length b.length+1:=by
 obtain ⟨r,h1,h2⟩:=P.IE hn ha hb
 exact ⟨r,Ev.step (fun k=>n9 k a b) h1,h2⟩
theorem s_Sub (hn:a.length<68719476736) (ha:P.Can RR a n) (hb:P.Can RR b m) (hle:m<=n):∃ r,Ev (fun k=>aN k a b) r/\P.Can RR r (n-m)/\r.length<=a.length:=by
 obtain ⟨r,h1,h2⟩:=P.Bt hn ha hb hle
 exact ⟨r,Ev.step (fun k=>nW k a b) h1,h2⟩
theorem s_Cmp (hn:a.length<4611686018427387904) (ha:P.Can RR a n) (hb:P.Can RR b m):Ev (fun k=>aJ k a b) (dD n m):=Ev.step (fun k=>n7 k a b) (P.eh hn ha hb)
theorem s_GCD (la:a.length<1073741824) (lb:b.length<1073741824) (ha:P.Can RR a n) (hb:P.Can RR b m):∃ r,Ev (fun k=>ay k a b) r/\P.Can RR r (gI n m):=by
 obtain ⟨r,h1,h2⟩:=P.ID la lb ha hb
 exact ⟨r,Ev.step (fun k=>nY k a b) h1,h2⟩
theorem Bh (hn:a.length<1073741824) (hb:b.length<1073741824) (ha:P.Can RR a n) (cb:P.Can RR b m) (hm:0<m):∃ q r,Ev (fun k=>aF k a b) (q,r,())/\P.Can RR q (n / m)/\P.Can RR r (n % m):=by
 obtain ⟨q,r,h1,h2,h3,_⟩:=P.ud hn hb ha cb hm
 exact ⟨q,r,Ev.step (fun k=>lO k a b) (evmap (g:=fun r:List Int×List Int=>(r.1,r.2,())) h1),h2,h3⟩
theorem E7 (hn:a.length<1073741824) (ha:P.Can RR a n):∃ r,Ev (fun k=>aE k a) r/\P.Can WW r n:=by
 obtain ⟨r,h1,h2⟩:=P.DJ hn ha
 exact ⟨r,Ev.step (fun k=>mq k a) h1,h2⟩
theorem E9 {k0 c0:Int} (hn:a.length<549755813888) (ha:P.Can RR a n) (hk:0<=k0/\k0<=65536) (hc:0<=c0/\c0<=65536):∃ r,Ev (fun k=>aw k a k0 c0) r/\P.Can RR r (n*k0+c0)/\r.length<=a.length+2:=by
 obtain ⟨r,h1,h2⟩:=P.jz hn ha hk hc
 exact ⟨r,Ev.step (fun k=>mu k a k0 c0) h1,h2⟩
theorem rdT_rd (l:List Int) (i:Int):(cE (t:=(.int .u32)) l i:Int)=rd l i:=rfl
theorem KC {a:List Int} (hn:a.length<137438953472) (ha:Dg WW a) (d:Nat):∀ (i:Nat) (o:List Int),i=d->i<=a.length->P.Can RR o (vl WW (a.drop i))->o.length<=4*(a.length-i)->∃ r,aL (fun k m=>bQ.l0 k m a o ((i:Int)-1)) r/\P.Can RR r (vl WW a)/\r.length<=4*a.length:=by
 induction d with
 | zero =>
  rintro i o rfl h1 h2 h3
  exact ⟨o,aL.step (fun k m=>bQ.aM k m _ _ _) (aL.bF (decide_eq_false Q2) (aL.of (aX _))),by simpa using h2,Q2⟩
 | succ d ih =>
  rintro i o rfl h1 h2 h3
  have e1:(((d+1:Nat):Int)-1)=(d:Int):=Q2
  have hx:=P.dO ha (d:Int) Q2 Q2
  rw [P.cS] at hx
  obtain ⟨p,h4,h5,h6⟩:=E9 (k0:=65536) (c0:=rd a d / 65536) Q2 h2 Q2 Q2
  obtain ⟨q,h7,h8,h9⟩:=E9 (k0:=65536) (c0:=rd a d % 65536) Q2 h5 Q2 Q2
  have ea:a.drop d=rd a d :: a.drop (d+1):=by rw [P.kC a d Q2];exact (List.drop_eq_getElem_cons Q2)
  have ev:(vl WW (a.drop (d+1))*65536+rd a d / 65536)*65536+rd a d % 65536=vl WW (a.drop d):=by
   rw [ea,vl,P.cS]
   omega
  rw [ev] at h8
  obtain ⟨r,b,c⟩:=ih d q rfl Q2 h8 Q2
  refine ⟨r,aL.step (fun k m=>bQ.aM k m _ _ _) ?_,c⟩
  have e2:shr .u32 (rd a (d:Int)) 16=rd a d / 65536:=rfl
  rw [e1]
  simp only [rdT_rd]
  rw [e2,P.and16 hx.1 hx.2,cy (x:=rd a d / 65536) Q2 Q2,cy (x:=rd a d % 65536) Q2 Q2,cy (x:=(d:Int)-1) Q2 Q2]
  exact aL.bT (decide_eq_true Q2) (aL.iT Q2 (aL.bind h4 (aL.iT Q2 (aL.bind h7 b))))
theorem KD {a:List Int} {n:Int} (hn:a.length<137438953472) (ha:P.Can WW a n):∃ r,Ev (fun k=>bQ k a) r/\P.Can RR r n/\r.length<=4*a.length:=by
 obtain ⟨r,h1,h2⟩:=KC hn ha.1 a.length a.length [] rfl (Nat.le_refl _) (by rw [List.drop_length];exact P.Can.zero _) Q3
 rw [ha.2.2] at h2
 refine ⟨r,Ev.step (fun k=>pc k a) ?_,h2⟩
 rw [cy (x:=(a.length:Int)-1) Q2 Q2]
 exact h1.diag
end
section
variable {a b:List Int} {n m:Int} {v w:bJ} {p q:Rat} {K L:Nat}
theorem wz {l:List Int} {z:Int} (h:P.Can RR l z):(bif (List.length l:Int)==(1:Int) then if 0<=(0:Int)/\(0:Int)<(List.length l:Int) then some ((cE (t:=(.int .i64)) l (0:Int):Int)==(1:Int)) else none else some false)=some (decide (z=1)):=by
 match l,h with
 | [],h =>
  have:z=0:=by have:=h.2.2;simp [vl] at this;exact this.symm
  subst this
  rfl
 | [x],h =>
  have hx:x=z:=by have:=h.2.2;simp [vl] at this;exact this
  have hr:(cE (t:=(.int .i64)) [x] (0:Int):Int)=x:=rfl
  rw [hr,hx]
  simp
  by_cases c:z=1<;>simp [c]
 | x :: y :: t,h =>
  have h1:((List.length (x :: y :: t):Int)==(1:Int))=false:=by simp;omega
  have h2:RR<=z:=by
   have:=h.ge aW Q3
   refine Int.le_trans ?_ this
   have:=P.fj (B:=RR) (by decide) (i:=1) (j:=(x :: y :: t).length-1) Q3
   rw [Int.pow_succ,Int.pow_zero,Int.one_mul] at this
   exact this
  have:RR=10000:=rfl
  rw [h1,decide_eq_false Q2]
  rfl
theorem zL {l:List Int} {z:Int} (h:P.Can WW l z):(bif (List.length l:Int)==(1:Int) then if 0<=(0:Int)/\(0:Int)<(List.length l:Int) then some ((cE (t:=(.int .u32)) l (0:Int):Int)==(1:Int)) else none else some false)=some (decide (z=1)):=by
 match l,h with
 | [],h =>
  have:z=0:=by have:=h.2.2;simp [vl] at this;exact this.symm
  subst this
  rfl
 | [x],h =>
  have hx:x=z:=by have:=h.2.2;simp [vl] at this;exact this
  have hr:(cE (t:=(.int .u32)) [x] (0:Int):Int)=x:=rfl
  rw [hr,hx]
  simp
  by_cases c:z=1<;>simp [c]
 | x :: y :: t,h =>
  have h1:((List.length (x :: y :: t):Int)==(1:Int))=false:=by simp;omega
  have h2:WW<=z:=by
   have:=h.ge aH Q3
   refine Int.le_trans ?_ this
   have:=P.fj (B:=WW) (by decide) (i:=1) (j:=(x :: y :: t).length-1) Q3
   rw [Int.pow_succ,Int.pow_zero,Int.one_mul] at this
   exact this
  have:WW=4294967296:=rfl
  rw [h1,decide_eq_false Q2]
  rfl
theorem Bo:Ev (fun k=>im k) (false,[],[1],()):=Ev.step (fun k=>nd k) (aX _)
theorem DD:Ev (fun k=>iP k) (false,[1],[1],()):=Ev.step (fun k=>nU k) (aX _)
theorem kY {s:Bool} (la:a.length<1073741824) (lb:b.length<1073741824) (ha:P.Can RR a n) (hb:P.Can RR b m) (hm:0<m):∃ r,Ev (fun k=>eJ k s a b) r/\RB RR r (Rat.divInt (sg s n) m):=by
 have n0:=ha.fT aW
 by_cases hn:n=0
 ·obtain rfl:=Eu aW ha hn
  refine ⟨_,Ev.step (fun k=>fv k s [] b) (bT rfl (Ev.bind Bo (aX _))),?_⟩
  rw [hn,yx]
  exact Fi cD
 have c:gI n m=1->RB RR (s,a,b,()) (Rat.divInt (sg s n) m):=fun h1=>by
  have e1:n / gI n m=n:=by rw [h1];omega
  have e2:m / gI n m=m:=by rw [h1];omega
  exact rG Q2 hm (by rw [e1];exact ha) (by rw [e2];exact hb)
 by_cases hm1:m=1
 ·refine ⟨(s,a,b,()),Ev.step (fun k=>fv k s a b) (bF (mY aW ha hn) (Ev.bind (jq (wz hb)) (bT (decide_eq_true hm1) (aX _)))),c ?_⟩
  unfold P.gI
  rw [hm1]
  simp
 obtain ⟨g,g1,g2⟩:=s_GCD la lb ha hb
 have gp:=FM (x:=n) hm
 by_cases h1:gI n m=1
 ·exact ⟨(s,a,b,()),Ev.step (fun k=>fv k s a b) (bF (mY aW ha hn) (Ev.bind (jq (wz hb)) (bF (decide_eq_false hm1) (Ev.bind g1 (Ev.bind (jq (wz g2)) (bT (decide_eq_true h1) (aX _))))))),c h1⟩
 have gl:g.length<1073741824:=Nat.lt_of_le_of_lt (g2.gx cD (Int.lt_of_le_of_lt (P.gI_le hm) (hb.lt aW))) lb
 obtain ⟨u,u',u1,u2,u3⟩:=Bh la gl ha g2 gp
 obtain ⟨v,v',v1,v2,v3⟩:=Bh lb gl hb g2 gp
 exact ⟨(s,u,v,()),Ev.step (fun k=>fv k s a b) (bF (mY aW ha hn) (Ev.bind (jq (wz hb)) (bF (decide_eq_false hm1) (Ev.bind g1 (Ev.bind (jq (wz g2)) (bF (decide_eq_false h1) (Ev.bind u1 (Ev.bind v1 (aX _)))))))))
,rG Q2 hm u2 v2⟩
theorem DE (hv:RB RR v p) (hw:RB RR w q) (hp:Sz RR K p) (hq:Sz RR L q) (h:K+L<1073741824):∃ r,Ev (fun k=>iQ k v w) r/\RB RR r (p*q)/\Sz RR (K+L) (p*q):=by
 obtain ⟨c,a⟩:=ij cD hv hp
 obtain ⟨d,b⟩:=ij cD hw hq
 obtain ⟨x,x1,x2,x3⟩:=Bg Q2 hv.2.1 hw.2.1
 obtain ⟨y,y1,y2,y3⟩:=Bg Q2 hv.2.2 hw.2.2
 have hd:(0:Int)<(p.den:Int)*q.den:=gn (e9 p) (e9 q)
 obtain ⟨r,r1,r2⟩:=kY (s:=v.1 != w.1) Q2 Q2 x2 y2 hd
 have e:Rat.divInt (sg (v.1 != w.1) ((p.num.natAbs:Int)*q.num.natAbs)) ((p.den:Int)*q.den)=p*q:=by
  rw [Ij,lG hv,lG hw,<- Rat.divInt_mul_divInt,Rat.num_divInt_den,Rat.num_divInt_den]
 have hs:Sz RR (K+L) (p*q):=by
  rw [<- e]
  refine E4 (Int.mul_nonneg Q2 Q2) hd ?_ ?_
  ·exact Int.lt_of_lt_of_le (x2.lt aW) (P.fj (by decide) Q2)
  exact Int.lt_of_lt_of_le (y2.lt aW) (P.fj (by decide) Q2)
 rw [e] at r2
 exact ⟨r,Ev.step (fun k=>nV k v w) (Ev.bind x1 (Ev.bind y1 (Ev.bind r1 (aX _)))),r2,hs⟩
theorem Ks (hp:Sz RR K p) (hq:Sz RR L q):Sz RR (K+L+1) (p+q):=by
 have hK:(0:Int)<RR ^ K:=Int.pow_pos (by decide)
 have hL:(0:Int)<RR ^ L:=Int.pow_pos (by decide)
 have e:(RR:Int) ^ (K+L+1)=RR ^ K*RR ^ L*10000:=by rw [Int.pow_succ,Int.pow_add]
 obtain ⟨p1,p2⟩:=hp
 obtain ⟨q1,q2⟩:=hq
 have dp:=e9 p
 have dq:=e9 q
 have a1:(p.num.natAbs:Int)*q.den<=RR ^ K*RR ^ L:=Int.mul_le_mul Q2 Q2 Q2 Q2
 have a2:(q.num.natAbs:Int)*p.den<=RR ^ L*RR ^ K:=Int.mul_le_mul Q2 Q2 Q2 Q2
 have a3:(p.den:Int)*q.den<=RR ^ K*RR ^ L:=Int.mul_le_mul Q2 Q2 Q2 Q2
 rw [Int.mul_comm (RR ^ L)] at a2
 have a:(0:Int)<RR ^ K*RR ^ L:=gn hK hL
 have hn:((p.num*q.den+q.num*p.den).natAbs:Int)<=(p.num.natAbs:Int)*q.den+(q.num.natAbs:Int)*p.den:=by
  have h1:=Int.natAbs_add_le (p.num*q.den) (q.num*p.den)
  rw [Int.natAbs_mul,Int.natAbs_mul] at h1
  simp only [Int.natAbs_natCast] at h1
  have:((p.num.natAbs*q.den+q.num.natAbs*p.den:Nat):Int)=(p.num.natAbs:Int)*q.den+(q.num.natAbs:Int)*p.den:=by
   rw [Int.natCast_add,Int.natCast_mul,Int.natCast_mul]
  omega
 rw [pD]
 constructor
 ·rw [Rat.num_divInt,Int.sign_eq_one_of_pos (gn dp dq),Int.one_mul]
  have:((p.num*q.den+q.num*p.den) / ((((p.den:Int)*q.den).gcd (p.num*q.den+q.num*p.den):Nat):Int)).natAbs<=(p.num*q.den+q.num*p.den).natAbs:=by
   rw [Int.natAbs_ediv_of_dvd (Int.gcd_dvd_right ..)]
   exact Nat.div_le_self ..
  omega
 rw [Rat.den_divInt,if_neg (by have:=gn dp dq;omega)]
 have:((p.den:Int)*q.den).natAbs / (((p.den:Int)*q.den).gcd (p.num*q.den+q.num*p.den))<=((p.den:Int)*q.den).natAbs:=Nat.div_le_self ..
 have:=gn dp dq
 omega
theorem DG (hv:RB RR v p) (hw:RB RR w q) (hp:Sz RR K p) (hq:Sz RR L q) (h:K+L<268435456):∃ r,Ev (fun k=>gg k v w) r/\RB RR r (p+q)/\Sz RR (K+L+1) (p+q):=by
 obtain ⟨f,b⟩:=ij cD hv hp
 obtain ⟨e,c⟩:=ij cD hw hq
 refine (show ∃ r,Ev (fun k=>gg k v w) r/\RB RR r (p+q) from ?_).elim fun r hr=>⟨r,hr.1,hr.2,Ks hp hq⟩
 obtain ⟨x,x1,x2,x3⟩:=Bg Q2 hv.2.1 hw.2.2
 obtain ⟨y,y1,y2,y3⟩:=Bg Q2 hw.2.1 hv.2.2
 obtain ⟨d,d1,d2,d3⟩:=Bg Q2 hv.2.2 hw.2.2
 have hD:=gn (e9 p) (e9 q)
 have a:=pD p q
 rw [<- lG hv,<- lG hw,mN,mN] at a
 generalize (p.num.natAbs:Int)*q.den=X at x2 a
 generalize (q.num.natAbs:Int)*p.den=Y at y2 a
 generalize (p.den:Int)*q.den=D at d2 a hD
 rw [a]
 by_cases hst:v.1=w.1
 ·obtain ⟨z,z1,z2,z3⟩:=s_Add Q2 x2 y2
  obtain ⟨r,r1,r2⟩:=kY (s:=v.1) Q2 Q2 z2 d2 hD
  refine ⟨r,Ev.step (fun k=>gy k v w) (Ev.bind x1 (Ev.bind y1 (Ev.bind d1 (bT (by rw [hst];simp) (Ev.bind z1 (Ev.bind r1 (aX _))))))),?_⟩
  have:sg v.1 X+sg w.1 Y=sg v.1 (X+Y):=by rw [<- hst];unfold sg;cases v.1<;>simp<;>omega
  rw [this]
  exact r2
 have hc:=s_Cmp Q2 x2 y2
 by_cases hxy:Y<=X
 ·obtain ⟨z,z1,z2,z3⟩:=s_Sub Q2 x2 y2 hxy
  obtain ⟨r,r1,r2⟩:=kY (s:=v.1) Q2 Q2 z2 d2 hD
  refine ⟨r,Ev.step (fun k=>gy k v w) (Ev.bind x1 (Ev.bind y1 (Ev.bind d1 (bF (Af hst) (Ev.bind hc (bT (decide_eq_true ?_) (Ev.bind z1 (Ev.bind r1 (aX _))))))))),?_⟩
  ·unfold P.dD
   split
   ·omega
   split<;>omega
  have:sg v.1 X+sg w.1 Y=sg v.1 (X-Y):=by
   unfold sg
   generalize v.1=s at hst ⊢
   generalize w.1=t at hst ⊢
   cases s<;>cases t<;>simp at hst ⊢<;>omega
  rw [this]
  exact r2
 obtain ⟨z,z1,z2,z3⟩:=s_Sub Q2 y2 x2 Q2
 obtain ⟨r,r1,r2⟩:=kY (s:=w.1) Q2 Q2 z2 d2 hD
 refine ⟨r,Ev.step (fun k=>gy k v w) (Ev.bind x1 (Ev.bind y1 (Ev.bind d1 (bF (Af hst) (Ev.bind hc (bF (decide_eq_false ?_) (Ev.bind z1 (Ev.bind r1 (aX _))))))))),?_⟩
 ·unfold P.dD
  rw [if_pos Q2]
  omega
 have:sg v.1 X+sg w.1 Y=sg w.1 (Y-X):=by
  unfold sg
  generalize v.1=s at hst ⊢
  generalize w.1=t at hst ⊢
  cases s<;>cases t<;>simp at hst ⊢<;>omega
 rw [this]
 exact r2
theorem uc (hv:RB RR v p):Ev (fun k=>fQ k v) (Dx p):=by
 refine Ev.step (fun k=>nf k v) ?_
 rw [FG aW hv,hv.1]
 unfold Dx
 by_cases c:p=0
 ·refine bT (decide_eq_true c) ?_
  rw [if_neg (by rw [c];exact Rat.lt_irrefl),if_pos c]
  exact aX _
 refine bF (decide_eq_false c) ?_
 by_cases d:p<0
 ·rw [if_pos d]
  exact bT (decide_eq_true (lg.2 d)) (aX _)
 rw [if_neg d,if_neg c]
 exact bF (decide_eq_false (fun e=>d (lg.1 e))) (aX _)
theorem GC (hv:RB WW v p) (hp:Sz WW K p) (h:K<1073741824):∃ r,Ev (fun k=>jk k v) r/\RB RR r p/\Sz RR (4*K) p:=by
 obtain ⟨b,a⟩:=ij bw hv hp
 obtain ⟨x,x1,x2,x3⟩:=KD Q2 hv.2.1
 obtain ⟨y,y1,y2,y3⟩:=KD Q2 hv.2.2
 have hr:RB RR (v.1,x,y,()) p:=⟨hv.1,x2,y2⟩
 exact ⟨_,Ev.step (fun k=>pb k v) (Ev.bind x1 (Ev.bind y1 (aX _))),hr,xF aW hr (by simp;omega) (by simp;omega)⟩
theorem GA (hv:RB RR v p) (hp:Sz RR K p) (h:K<1073741824):∃ r,Ev (fun k=>fi k v) r/\RB WW r p:=by
 obtain ⟨b,a⟩:=ij cD hv hp
 obtain ⟨x,x1,x2⟩:=E7 Q2 hv.2.1
 obtain ⟨y,y1,y2⟩:=E7 Q2 hv.2.2
 exact ⟨(v.1,x,y,()),Ev.step (fun k=>o9 k v) (Ev.bind x1 (Ev.bind y1 (aX _))),hv.1,x2,y2⟩
theorem Fk (a b:List Int) (hn:a.length<4611686018427387904):∃ r,Ev (fun k=>aB k a b) r/\(r=true↔a=b):=by
 obtain ⟨r,h1,h2⟩:=P.eq_sp a b hn
 exact ⟨r,Ev.step (fun k=>jR k a b) h1,h2⟩
theorem Bp (v w:bJ) (h1:v.2.1.length<4611686018427387904) (h2:v.2.2.1.length<4611686018427387904):Ev (fun k=>fp k v w) (decide (v=w)):=by
 obtain ⟨a,x,y,_⟩:=v
 obtain ⟨b,x',y',_⟩:=w
 obtain ⟨r,r1,r2⟩:=Fk x x' h1
 obtain ⟨s,s1,s2⟩:=Fk y y' h2
 have er:r=decide (x=x'):=by
  by_cases c:x=x'
  ·rw [decide_eq_true c];exact r2.2 c
  rw [decide_eq_false c];exact Bool.eq_false_iff.2 (fun e=>c (r2.1 e))
 have es:s=decide (y=y'):=by
  by_cases c:y=y'
  ·rw [decide_eq_true c];exact s2.2 c
  rw [decide_eq_false c];exact Bool.eq_false_iff.2 (fun e=>c (s2.1 e))
 have e:decide ((a,x,y,())=((b,x',y',()):bJ))=((a==b)&&r&&s):=by
  rw [er,es]
  have:(a==b)=decide (a=b):=by cases a<;>cases b<;>rfl
  rw [this,<- Bool.decide_and,<- Bool.decide_and]
  refine decide_eq_decide.2 ?_
  simp [and_assoc]
 rw [e]
 refine Ev.step (fun k=>ng k _ _) (Ev.bind (a:=(a==b)&&r) ?_ (Ev.bind (a:=(a==b)&&r&&s) ?_ (aX _)))
 ·by_cases c:(a==b)=true
  ·rw [c]
   exact bT rfl (Ev.bind r1 (by rw [Bool.true_and];exact aX _))
  rw [Bool.eq_false_iff.2 c]
  exact bF rfl (aX _)
 by_cases c:((a==b)&&r)=true
 ·rw [c]
  exact bT rfl (Ev.bind s1 (by rw [Bool.true_and];exact aX _))
 rw [Bool.eq_false_iff.2 c]
 exact bF rfl (aX _)
end
def Arg (v:bJ):Prop:=Dg WW v.2.1/\Dg WW v.2.2.1/\True/\True
def Vd (v:bJ):Prop:=∃ q,RB WW v q/\Sz WW 4096 q
section
variable {v w:bJ} {p q:Rat} {K L:Nat}
theorem Cv (q:Rat):gI (q.num.natAbs:Int) q.den=1:=by
 unfold P.gI
 have:=q.reduced
 unfold Nat.Coprime at this
 simp only [Int.gcd,Int.natAbs_natCast,this]
 rfl
theorem E0 {s:Bool} {a b:List Int} (da:Dg WW a) (db:Dg WW b):(∃ q,RB WW (s,a,b,()) q)↔Nm a/\Nm b/\vl WW b≠0/\(vl WW a=0->s=false/\vl WW b=1)/\(vl WW a≠0->gI (vl WW a) (vl WW b)=1):=by
 constructor
 ·rintro ⟨q,h1,h2,h3⟩
  have e2:vl WW a=(q.num.natAbs:Int):=h2.2.2
  have e3:vl WW b=(q.den:Int):=h3.2.2
  have dp:=e9 q
  refine ⟨h2.2.1,h3.2.1,Q2,fun h=>?_,fun h=>?_⟩
  ·have h0:q=0:=Rat.num_eq_zero.1 Q2
   refine ⟨?_,?_⟩
   ·have:s=decide (q.num<0):=h1
    rw [this,h0];rfl
   rw [e3,h0];rfl
  rw [e2,e3]
  exact Cv q
 rintro ⟨na,nb,hb,h0,h1⟩
 have a0:=P.bN aH da
 have b0:=P.bN aH db
 by_cases c:vl WW a=0
 ·obtain ⟨rfl,e⟩:=h0 c
  refine ⟨0,rfl,?_,?_⟩
  ·exact ⟨da,na,c⟩
  exact ⟨db,nb,e⟩
 have g:=h1 c
 refine ⟨Rat.divInt (sg s (vl WW a)) (vl WW b),rG Q2 Q2 ?_ ?_⟩
 ·rw [g,Int.ediv_one];exact ⟨da,na,rfl⟩
 rw [g,Int.ediv_one];exact ⟨db,nb,rfl⟩
theorem vd_iff (ha:Arg v):Vd v↔v.2.1.length<=4096/\v.2.2.1.length<=4096/\Nm v.2.1/\Nm v.2.2.1/\vl WW v.2.2.1≠0/\(vl WW v.2.1=0->v.1=false/\vl WW v.2.2.1=1)/\(vl WW v.2.1≠0->gI (vl WW v.2.1) (vl WW v.2.2.1)=1):=by
 obtain ⟨s,a,b,_⟩:=v
 have h:=E0 (s:=s) ha.1 ha.2.1
 constructor
 ·rintro ⟨q,h1,h2⟩
  obtain ⟨l1,l2⟩:=ij bw h1 h2
  exact ⟨l1,l2,h.1 ⟨q,h1⟩⟩
 rintro ⟨l1,l2,h3⟩
 obtain ⟨q,hq⟩:=h.2 h3
 exact ⟨q,hq,xF aH hq l1 l2⟩
theorem Kk {l:List Int} (hd:Dg WW l) (hn:Nm l):l.length=0↔vl WW l=0:=(show P.Can WW l (vl WW l) from ⟨hd,hn,rfl⟩).jj aH
theorem u7 {l:List Int} (hd:Dg WW l) (hn:Nm l):((List.length l:Int)==(0:Int))=decide (vl WW l=0):=by
 by_cases c:vl WW l=0
 ·have:=(Kk hd hn).2 c
  rw [decide_eq_true c];simp [List.eq_nil_of_length_eq_zero this]
 rw [decide_eq_false c];exact mY aH ⟨hd,hn,rfl⟩ c
end
section
variable {v w:bJ} {p q:Rat} {K L:Nat}
theorem JO (x y:Int):(dD x y==(0:Int))=decide (x=y):=by
 unfold P.dD
 by_cases a:x<y
 ·rw [if_pos a,decide_eq_false Q2];rfl
 by_cases b:x=y
 ·rw [if_neg a,if_pos b,decide_eq_true b];rfl
 rw [if_neg a,if_neg b,decide_eq_false b];rfl
theorem zg (v:bJ) (N:Nat):Ev (fun k=>dw k v (N:Int)) (decide (v.2.1.length<=N/\v.2.2.1.length<=N)):=by
 refine Ev.step (fun k=>mi k v _) (Ev.bind ?_ (aX _))
 by_cases c:v.2.1.length<=N
 ·refine bT (decide_eq_true Q2) ?_
  have:decide ((List.length v.2.2.1:Int)<=N)=decide (v.2.1.length<=N/\v.2.2.1.length<=N):=decide_eq_decide.2 Q2
  rw [this]
  exact aX _
 have:decide (v.2.1.length<=N/\v.2.2.1.length<=N)=false:=decide_eq_false (fun h=>c h.1)
 rw [this]
 exact bF (decide_eq_false Q2) (aX _)
theorem lX:(Dx q==(0:Int))=decide (q=0):=by
 rcases Ii q with ⟨h1,h2⟩ | ⟨h1,h2⟩ | ⟨h1,h2⟩
 ·rw [h1,decide_eq_false (Rat.ne_of_lt h2)];rfl
 ·rw [h1,decide_eq_true h2];rfl
 rw [h1,decide_eq_false (Rat.ne_of_gt h2)];rfl
end
open Go.Proofs.YtfbgaddecbiimaaGreatDoor.P (JG)
theorem yP:cM T=true:=by kernel_rfl
theorem mixed:T.P.follows .mixedOrders=true:=by kernel_rfl
theorem noGo0:(Tryz.prog.funcs.toList.all fun f=>f.name != "runtime.NumGoroutine")=true:=by kernel_rfl
theorem noGo (f:Nat) (fn:Func) (h:T.P.funcs[f]?=some fn):fn.name≠"runtime.NumGoroutine":=by
 have h1:=List.all_eq_true.1 noGo0 fn (by
  rw [Array.mem_toList_iff]
  exact Array.mem_of_getElem? h)
 simpa using h1
theorem LH {y:bJ} (h:xz aq y):Arg y:=by
 obtain ⟨_,h1,h2,_⟩:=h
 exact ⟨JG h1.2,JG h2.2,trivial,trivial⟩
section
variable {v w:bJ} {p q:Rat} {K L:Nat}
def down (n:Nat) (p:Rat):Rat:=((p*((2 ^ n:Int):Rat)).floor:Rat) / ((2 ^ n:Int):Rat)
end
def eS {α:Type} (g:Nat->Nat->Nat->Option α) (r:α):Prop:=∃ K,∀ k m n,K<=k->K<=m->K<=n->g k m n=some r
section
variable {α β:Type} {g f:Nat->Nat->Nat->Option α} {r:α}
theorem eS.diag (h:eS g r):aL (fun k n=>g k k n) r:=by
 obtain ⟨K,h⟩:=h
 exact ⟨K,fun k n hk hn=>h k k n hk hk hn⟩
theorem eS.step (h:∀ k m n,g k (m+1) n=f k m n) (k:eS f r):eS g r:=by
 obtain ⟨K,k⟩:=k
 refine ⟨K+1,fun n m q hn hm hq=>?_⟩
 obtain ⟨p,rfl⟩:∃ p,m=p+1:=⟨m-1,Q2⟩
 rw [h]
 exact k n p q Q2 Q2 Q2
theorem eS.bind {g:Nat->Option β} {f:Nat->Nat->Nat->β->Option α} {a:β} (h:Ev g a) (k:eS (fun n m q=>f n m q a) r):eS (fun n m q=>(g n).bind (f n m q)) r:=by
 obtain ⟨K,h⟩:=h
 obtain ⟨K',k⟩:=k
 refine ⟨max K K',fun n m q hn hm hq=>?_⟩
 have h1:=h n Q2
 simp only [h1,Option.bind_some]
 exact k n m q Q2 Q2 Q2
theorem eS.bT {c:Bool} (hc:c=true) (h:eS f r):eS (fun k m n=>bif c then f k m n else g k m n) r:=by subst hc;exact h
theorem eS.bF {c:Bool} (hc:c=false) (h:eS g r):eS (fun k m n=>bif c then f k m n else g k m n) r:=by subst hc;exact h
theorem eS.iT {c:Prop} [Decidable c] (hc:c) (h:eS f r):eS (fun k m n=>if c then f k m n else none) r:=by simpa only [if_pos hc] using h
theorem eS.of {g:Nat->Nat->Option α} (h:aL g r):eS (fun k _ n=>g k n) r:=by
 obtain ⟨K,h⟩:=h
 exact ⟨K,fun k m n hk _ hn=>h k n hk hn⟩
end
def VN (N:Nat) (v:bJ):Prop:=∃ q,RB WW v q/\Sz WW N q
section
variable {v w:bJ} {p q:Rat} {K L:Nat}
theorem KJ (l:List Int):∃ b,P.bS.f l=some b/\(b=true↔l.length<=4096/\Nm l):=by
 unfold P.bS.f
 by_cases h1:l.length<=4096
 ·by_cases h0:l.length=0
  ·refine ⟨true,by rw [if_pos Q2,if_pos Q2],?_⟩
   have:l=[]:=List.eq_nil_of_length_eq_zero h0
   subst this
   simp
   exact P.Nm.nil
  have e:wrap64 ((l.length:Int)-1)=(l.length:Int)-1:=cy Q2 Q2
  rw [e,if_pos Q2,if_neg Q2,if_pos Q2,if_pos Q2]
  refine ⟨_,rfl,?_⟩
  simp only [bne_iff_ne]
  constructor
  ·intro h
   exact ⟨h1,P.oU (fun _=>h)⟩
  intro h
  exact h.2.rd Q2
 refine ⟨false,by rw [if_neg Q2],?_⟩
 simp
 omega
theorem E8 (l:List Int) (hl:True):∃ t,Ev (fun k=>bS k l) t/\(t=true↔l.length<=4096/\Nm l):=by
 obtain ⟨t,h1,h3⟩:=KJ l
 exact ⟨t,Ev.step (fun k=>mr k l) (jq h1),h3⟩
theorem zd (ha:Arg v):∃ t,Ev (fun k=>fK k v) t/\(t=true↔Vd v):=by
 have c:=vd_iff ha
 obtain ⟨da,db,la,lb⟩:=ha
 obtain ⟨s,a,b,_⟩:=v
 obtain ⟨t1,e1,i1⟩:=E8 a la
 obtain ⟨t2,e2,i2⟩:=E8 b lb
 by_cases c1:a.length<=4096/\Nm a
 ·by_cases c2:b.length<=4096/\Nm b
  ·obtain rfl:=i1.2 c1
   obtain rfl:=i2.2 c2
   have i:=u7 db c2.2
   have ca:P.Can WW a (vl WW a):=⟨da,c1.2,rfl⟩
   have cb:P.Can WW b (vl WW b):=⟨db,c2.2,rfl⟩
   have h1:=zL cb
   by_cases c3:vl WW b=0
   ·refine ⟨false,Ev.step (fun k=>fh k _) (Ev.bind e1 (Ev.bind (a:=false) (bF rfl (Ev.bind e2 (aX _))) (Ev.bind (a:=true) (bF rfl ?_) (bT rfl (aX _))))),?_⟩
    ·rw [i,decide_eq_true c3];exact aX _
    rw [c];simp [c3]
   refine (?_:∃ t,Ev (fun k=>bif (List.length a:Int)==(0:Int) then _ else _) t/\_).elim fun t h=>⟨t,Ev.step (fun k=>fh k _) (Ev.bind e1 (Ev.bind (a:=false) (bF rfl (Ev.bind e2 (aX _))) (Ev.bind (a:=false) (bF rfl ?_) (bF rfl h.1)))),h.2⟩
   ·by_cases c4:vl WW a=0
    ·have d:((List.length a:Int)==(0:Int))=true:=by rw [u7 da c1.2];exact decide_eq_true c4
     cases s with
     | true =>
      refine ⟨false,bT d (Ev.bind (a:=false) (bF rfl (aX _)) (Ev.bind (bF rfl (aX _)) (aX _))),?_⟩
      rw [c];simp [c4]
     | false =>
      refine ⟨decide (vl WW b=1),bT d ?_,?_⟩
      ·by_cases c5:((List.length b:Int)==(1:Int))=true
       ·rw [c5] at h1
        refine Ev.bind (a:=true) (bT rfl (by rw [show (List.length (false,a,b,()).2.2.1:Int)=(List.length b:Int) from rfl,c5];exact aX _)) (Ev.bind (bT rfl ?_) (aX _))
        have f:(if 0<=(0:Int)/\(0:Int)<(List.length b:Int) then some ((cE (t:=(.int .u32)) b (0:Int):Int)==(1:Int)) else none)=some (decide (vl WW b=1)):=h1
        exact jq f
       have c6:=Bool.eq_false_iff.2 c5
       rw [c6] at h1
       have f:some false=some (decide (vl WW b=1)):=h1
       rw [<- Option.some.inj f]
       exact Ev.bind (a:=false) (bT rfl (by rw [show (List.length (false,a,b,()).2.2.1:Int)=(List.length b:Int) from rfl,c6];exact aX _)) (Ev.bind (bF rfl (aX _)) (aX _))
      rw [c,decide_eq_true_eq]
      simp [c4,c1,c2,c3]
    have d:((List.length a:Int)==(0:Int))=false:=mY aH ca c4
    obtain ⟨x,x1,x2,x3⟩:=KD Q2 ca
    obtain ⟨y,y1,y2,y3⟩:=KD Q2 cb
    obtain ⟨g,g1,g2⟩:=s_GCD Q2 Q2 x2 y2
    have b0:0<vl WW b:=by
     have h0:(0:Int)<=vl WW b:=P.bN aH db
     omega
    have gl:g.length<4611686018427387904:=by
     have:=g2.gx cD (Int.lt_of_le_of_lt (P.gI_le b0) (y2.lt aW))
     omega
    have h2:=s_Cmp gl g2 (CQ cD)
    refine ⟨decide (gI (vl WW a) (vl WW b)=1),bF d (Ev.bind x1 (Ev.bind y1 (Ev.bind g1 (Ev.bind h2 ?_)))),?_⟩
    ·rw [JO];exact aX _
    rw [c,decide_eq_true_eq]
    simp [c4,c1,c2,c3]
   rw [i,decide_eq_false c3];exact aX _
  obtain rfl:=i1.2 c1
  have:t2=false:=Bool.eq_false_iff.2 (fun e=>c2 (i2.1 e))
  subst this
  refine ⟨false,Ev.step (fun k=>fh k _) (Ev.bind e1 (Ev.bind (a:=true) (bF rfl (Ev.bind e2 (aX _))) (Ev.bind (a:=true) (bT rfl (aX _)) (bT rfl (aX _))))),?_⟩
  rw [c]
  simp
  intro h1 h2 h3 h4
  exact absurd ⟨h2,h4⟩ c2
 have:t1=false:=Bool.eq_false_iff.2 (fun e=>c1 (i1.1 e))
 subst this
 refine ⟨false,Ev.step (fun k=>fh k _) (Ev.bind e1 (Ev.bind (a:=true) (bT rfl (aX _)) (Ev.bind (a:=true) (bT rfl (aX _)) (bT rfl (aX _))))),?_⟩
 rw [c]
 simp
 intro h1 h2 h3 h4
 exact absurd ⟨h1,h3⟩ c1
theorem vn_iff (N:Nat) (ha:Arg v):VN N v↔v.2.1.length<=N/\v.2.2.1.length<=N/\Nm v.2.1/\Nm v.2.2.1/\vl WW v.2.2.1≠0/\(vl WW v.2.1=0->v.1=false/\vl WW v.2.2.1=1)/\(vl WW v.2.1≠0->gI (vl WW v.2.1) (vl WW v.2.2.1)=1):=by
 obtain ⟨s,a,b,_⟩:=v
 have h:=E0 (s:=s) ha.1 ha.2.1
 constructor
 ·rintro ⟨q,h1,h2⟩
  obtain ⟨l1,l2⟩:=ij bw h1 h2
  exact ⟨l1,l2,h.1 ⟨q,h1⟩⟩
 rintro ⟨l1,l2,h3⟩
 obtain ⟨q,hq⟩:=h.2 h3
 exact ⟨q,hq,xF aH hq l1 l2⟩
theorem uq (N:Nat) (hN:N<=4096) (l:List Int):∃ t,Ev (fun k=>jD k l (N:Int)) t/\(t=true↔l.length<=N/\Nm l):=by
 by_cases h1:l.length<=N
 ·by_cases h0:l.length=0
  ·have:l=[]:=List.eq_nil_of_length_eq_zero h0
   subst this
   exact ⟨true,Ev.step (fun k=>mX k _ _) (Ev.bind (bT rfl (Ev.bind (bT rfl (aX _)) (aX _))) (aX _)),by simp;exact P.Nm.nil⟩
  have e:wrap64 ((l.length:Int)-1)=(l.length:Int)-1:=cy Q2 Q2
  refine ⟨rd l ((l.length:Int)-1) != 0,Ev.step (fun k=>mX k _ _) (Ev.bind (bT (decide_eq_true Q2) (Ev.bind (bF (by simp;intro e;exact h0 (by simp [e])) ?_) (aX _))) (aX _)),?_⟩
  ·rw [e]
   exact iT Q2 (aX _)
  simp only [bne_iff_ne]
  exact ⟨fun h=>⟨h1,P.oU (fun _=>h)⟩,fun h=>h.2.rd Q2⟩
 exact ⟨false,Ev.step (fun k=>mX k _ _) (Ev.bind (bF (decide_eq_false Q2) (aX _)) (aX _)),by simp;omega⟩
theorem BR (N:Nat) (hN:N<=4096) (ha:Arg v):∃ t,Ev (fun k=>fe k v (N:Int)) t/\(t=true↔VN N v):=by
 have c:=vn_iff N ha
 obtain ⟨da,db,la,lb⟩:=ha
 obtain ⟨s,a,b,_⟩:=v
 obtain ⟨t1,e1,i1⟩:=uq N hN a
 obtain ⟨t2,e2,i2⟩:=uq N hN b
 show ∃ t,Ev (fun k=>fe k (s,a,b,()) (N:Int)) t/\(t=true↔VN N (s,a,b,()))
 by_cases c1:a.length<=N/\Nm a
 ·by_cases c2:b.length<=N/\Nm b
  ·obtain rfl:=i1.2 c1
   obtain rfl:=i2.2 c2
   have i:=u7 db c2.2
   have ca:P.Can WW a (vl WW a):=⟨da,c1.2,rfl⟩
   have cb:P.Can WW b (vl WW b):=⟨db,c2.2,rfl⟩
   have h1:=zL cb
   by_cases c3:vl WW b=0
   ·refine ⟨false,Ev.step (fun k=>kr k _ _) (Ev.bind e1 (Ev.bind (a:=false) (bF rfl (Ev.bind e2 (aX _))) (Ev.bind (a:=true) (bF rfl ?_) (bT rfl (aX _))))),?_⟩
    ·rw [i,decide_eq_true c3];exact aX _
    rw [c];simp [c3]
   refine (?_:∃ t,Ev (fun k=>bif (List.length a:Int)==(0:Int) then _ else _) t/\_).elim fun t h=>⟨t,Ev.step (fun k=>kr k _ _) (Ev.bind e1 (Ev.bind (a:=false) (bF rfl (Ev.bind e2 (aX _))) (Ev.bind (a:=false) (bF rfl ?_) (bF rfl h.1)))),h.2⟩
   ·by_cases c4:vl WW a=0
    ·have d:((List.length a:Int)==(0:Int))=true:=by rw [u7 da c1.2];exact decide_eq_true c4
     cases s with
     | true =>
      refine ⟨false,bT d (Ev.bind (a:=false) (bF rfl (aX _)) (Ev.bind (bF rfl (aX _)) (aX _))),?_⟩
      rw [c];simp [c4]
     | false =>
      refine ⟨decide (vl WW b=1),bT d ?_,?_⟩
      ·by_cases c5:((List.length b:Int)==(1:Int))=true
       ·rw [c5] at h1
        refine Ev.bind (a:=true) (bT rfl (by rw [show (List.length (false,a,b,()).2.2.1:Int)=(List.length b:Int) from rfl,c5];exact aX _)) (Ev.bind (bT rfl ?_) (aX _))
        have f:(if 0<=(0:Int)/\(0:Int)<(List.length b:Int) then some ((cE (t:=(.int .u32)) b (0:Int):Int)==(1:Int)) else none)=some (decide (vl WW b=1)):=h1
        exact jq f
       have c6:=Bool.eq_false_iff.2 c5
       rw [c6] at h1
       have f:some false=some (decide (vl WW b=1)):=h1
       rw [<- Option.some.inj f]
       exact Ev.bind (a:=false) (bT rfl (by rw [show (List.length (false,a,b,()).2.2.1:Int)=(List.length b:Int) from rfl,c6];exact aX _)) (Ev.bind (bF rfl (aX _)) (aX _))
      rw [c,decide_eq_true_eq]
      simp [c4,c1,c2,c3]
    have d:((List.length a:Int)==(0:Int))=false:=mY aH ca c4
    by_cases c5:vl WW b=1
    ·refine ⟨true,bF d (Ev.bind (jq h1) (bT (decide_eq_true c5) (aX _))),?_⟩
     rw [c]
     have:gI (vl WW a) 1=1:=by unfold P.gI;simp
     simp [c4,c1,c2,c5,this]
    obtain ⟨g,g1,g2⟩:=q_GCD Q2 Q2 ca cb
    have h2:=zL g2
    refine ⟨decide (gI (vl WW a) (vl WW b)=1),bF d (Ev.bind (jq h1) (bF (decide_eq_false c5) (Ev.bind g1 (Ev.bind (jq h2) (aX _))))),?_⟩
    rw [c,decide_eq_true_eq]
    simp [c4,c1,c2,c3]
   rw [i,decide_eq_false c3];exact aX _
  obtain rfl:=i1.2 c1
  have:t2=false:=Bool.eq_false_iff.2 (fun e=>c2 (i2.1 e))
  subst this
  refine ⟨false,Ev.step (fun k=>kr k _ _) (Ev.bind e1 (Ev.bind (a:=true) (bF rfl (Ev.bind e2 (aX _))) (Ev.bind (a:=true) (bT rfl (aX _)) (bT rfl (aX _))))),?_⟩
  rw [c]
  simp
  intro h1 h2 h3 h4
  exact absurd ⟨h2,h4⟩ c2
 have:t1=false:=Bool.eq_false_iff.2 (fun e=>c1 (i1.1 e))
 subst this
 refine ⟨false,Ev.step (fun k=>kr k _ _) (Ev.bind e1 (Ev.bind (a:=true) (bT rfl (aX _)) (Ev.bind (a:=true) (bT rfl (aX _)) (bT rfl (aX _))))),?_⟩
 rw [c]
 simp
 intro h1 h2 h3 h4
 exact absurd ⟨h1,h3⟩ c1
end
noncomputable def dc (p:Prop):Bool:=@decide p (Classical.propDecidable p)
theorem fD {p:Prop} (h:p):dc p=true:=@decide_eq_true p (Classical.propDecidable p) h
theorem eC {p:Prop} (h:¬ p):dc p=false:=@decide_eq_false p (Classical.propDecidable p) h
theorem dc_iff {p:Prop}:dc p=true↔p:=@decide_eq_true_iff p (Classical.propDecidable p)
theorem CH {p:Prop} {t:Bool} (h:t=true↔p):t=dc p:=by
 cases t with
 | true=>exact (fD (h.1 rfl)).symm
 | false=>exact (eC (fun hp=>by have:=h.2 hp;cases this)).symm
theorem cA {t:Ty} {l:List t.den} {i:Nat} (h:i<l.length):cE l (i:Int)=l[i]:=by
 simp [cE,h]
theorem fz {i:Nat} (h:i<9223372036854775807):wrap64 ((i:Int)+1)=((i+1:Nat):Int):=by
 rw [cy Q2 Q2];omega
section
variable {v w:bJ} {p q:Rat} {K L:Nat}
theorem zy (N:Nat) (hN:N<=4096) (ha:Arg v):Ev (fun k=>fe k v (N:Int)) (dc (VN N v)):=by
 obtain ⟨t,h1,h2⟩:=BR N hN ha
 rw [<- CH h2]
 exact h1
theorem Ay {N:Nat} (hN:N<=4096) (ha:Arg v):VN N v↔(v.2.1.length<=N/\v.2.2.1.length<=N)/\Vd v:=by
 constructor
 ·rintro ⟨q,h1,h2⟩
  exact ⟨ij bw h1 h2,q,h1,pL aH h2 hN⟩
 rintro ⟨⟨h1,h2⟩,q,h3,h4⟩
 exact ⟨q,h3,xF aH h3 h1 h2⟩
theorem ze (ha:Arg v):Ev (fun k=>fK k v) (dc (Vd v)):=by
 obtain ⟨t,h1,h2⟩:=zd ha
 rw [<- CH h2]
 exact h1
end
theorem nL {n:Nat} {P:Nat->Prop} (hn:P n) (hs:∀ i,i<n->P (i+1)->P i):∀ i,i<=n->P i:=by
 have a:∀ d i,n-i=d->i<=n->P i:=by
  intro d
  induction d with
  | zero =>
   intro i hd hi;have:i=n:=Q2
   subst this;exact hn
  | succ d ih=>intro i hd hi;exact hs i Q2 (ih (i+1) Q2 Q2)
 exact fun i hi=>a (n-i) i rfl hi
theorem dF {α:Type} {l:List α} {i:Nat} (h:i<l.length):l.drop i=l[i] :: l.drop (i+1):=List.drop_eq_getElem_cons h
theorem vR (x y:List Int) (h:x.length<=y.length) (hy:y.length<=9223372036854775807):Ev (fun k=>fb k x y) (cZ x y):=by
 have main:=nL (n:=x.length) (P:=fun i=>aL (fun k m=>fb.l0 k m y x (x.length:Int) (i:Int)) (cZ (x.drop i) (y.drop i))) ?_ ?_ 0 (Nat.zero_le _)
 ·exact Ev.step (fun k=>DW k x y) main.diag
 ·rw [List.drop_length]
  exact aL.step (fun k m=>fb.aM k m _ _ _ _) (aL.bF (decide_eq_false Q2) (aL.of (aX _)))
 intro i hi ih
 have a:i<y.length:=Q2
 have e1:(cE (t:=(.int .i64)) x (i:Int):Int)=x[i]:=cA hi
 have e2:(cE (t:=(.int .i64)) y (i:Int):Int)=y[i]:=cA a
 rw [dF hi,dF a]
 refine aL.step (fun k m=>fb.aM k m _ _ _ _) (aL.bT (decide_eq_true Q2) (aL.iT Q2 (aL.iT Q2 ?_)))
 rw [e1,e2]
 by_cases c:x[i]=y[i]
 ·have ce:cZ (x[i] :: x.drop (i+1)) (y[i] :: y.drop (i+1))=cZ (x.drop (i+1)) (y.drop (i+1)):=by simp only [cZ,if_pos c]
  rw [ce]
  refine aL.bF (by simp [c]) ?_
  rw [fz Q2]
  exact ih
 refine aL.bT (by simp [c]) (aL.iT Q2 ?_)
 by_cases d:x[i]<y[i]
 ·have ce:cZ (x[i] :: x.drop (i+1)) (y[i] :: y.drop (i+1)) = -1:=by simp only [cZ,if_neg c,if_pos d]
  rw [ce]
  exact aL.bT (decide_eq_true d) (aL.of (aX _))
 have ce:cZ (x[i] :: x.drop (i+1)) (y[i] :: y.drop (i+1))=1:=by simp only [cZ,if_neg c,if_neg d]
 rw [ce]
 exact aL.bF (decide_eq_false d) (aL.of (aX _))
def sE:List Int->Int
 | []=>0
 | x :: l=>x+sE l
theorem sX:∀ a b,sE (a++b)=sE a+sE b
 | [],b=>by simp [sE]
 | x :: a,b=>by rw [List.cons_append,sE,sE,sX a b];omega
theorem mO {l:List Int} {i:Nat} (h:i<l.length):sE (l.take (i+1))=sE (l.take i)+l[i]:=by
 rw [List.take_succ_eq_append_getElem h,sX];simp [sE]
theorem rC {B:Int} (hB:0<=B):∀ {l:List Int},(∀ x∈l,0<=x/\x<=B)->0<=sE l/\sE l<=B*l.length
 | [],_=>by simp [sE]
 | x :: l,h=>by
  have h1:=rC hB (l:=l) (fun y hy=>h y (by simp [hy]))
  have h2:=h x Q3
  have e:B*((x :: l).length:Int)=B*l.length+B:=by simp only [List.length_cons];grind
  simp only [sE]
  omega
abbrev dW (x:List Int):List Int:=eE (0:Int) 8 x
theorem eA {α:Type} (z:α):∀ (n:Nat) (l:List α),(eE z n l).length=n
 | 0,l=>rfl
 | n+1,[]=>by simp [eE,eA z n]
 | n+1,a :: l=>by simp [eE,eA z n]
theorem cN {α:Type} (z:α):∀ (n:Nat) (l:List α),l.length<=n->eE z n l=l++List.replicate (n-l.length) z
 | 0,[],_=>rfl
 | 0,_ :: _,h=>by simp at h
 | n+1,[],_=>by
  have:=cN z n [] (Nat.zero_le _)
  simp only [eE,this,List.nil_append,List.length_nil,Nat.sub_zero]
  rfl
 | n+1,a :: l,h=>by
  have:=cN z n l (by simpa using h)
  simp only [eE,this,List.cons_append,List.length_cons,Nat.add_sub_add_right]
theorem Fb:∀ n,sE (List.replicate n (0:Int))=0
 | 0=>rfl
 | n+1=>by rw [List.replicate_succ,sE,Fb n];rfl
theorem Ip {x:List Int} (h:x.length<=8):sE (dW x)=sE x:=by
 rw [dW,cN _ _ _ h,sX,Fb];omega
theorem yC (n m:Nat):∀ x y:List Int,x.length=y.length->cZ (x++List.replicate n 0) (y++List.replicate n 0)=cZ x y
 | [],[],_=>by
  show cZ (List.replicate n 0) (List.replicate n 0)=0
  exact tM _
 | [],_ :: _,h=>by simp at h
 | _ :: _,[],h=>by simp at h
 | a :: x,b :: y,h=>by
  simp only [List.cons_append,cZ,yC n m x y (by simpa using h)]
theorem CM {x y:List Int} (hx:x.length<=8) (h:x.length=y.length):cZ (dW x) (dW y)=cZ x y:=by
 rw [dW,dW,cN _ _ _ hx,cN _ _ _ Q2,<- h]
 exact yC _ 0 x y h
theorem pP {e:List Int} (he:e.length=8) {i:Nat} (hi:i<8):xk (0:Int) 8 e (i:Int)=e[i]:=by
 simp only [xk,Int.toNat_natCast,Nat.mod_eq_of_lt hi]
 rw [List.getD_eq_getElem?_getD,List.getElem?_eq_getElem Q2]
 rfl
theorem Be (u:Int):∀ (l:List Int) (i:Nat),i<l.length->Bf (0:Int) u l i=l.set i u
 | [],i,h=>by simp at h
 | _ :: l,0,_=>rfl
 | a :: l,i+1,h=>by
  show a :: Bf (0:Int) u l i=a :: l.set i u
  rw [Be u l i (by simpa using h)]
theorem yV {e:List Int} (he:e.length=8) {i:Nat} (hi:i<8) (u:Int):Kv (0:Int) 8 e (i:Int) u=e.set i u:=by
 simp only [Kv,Int.toNat_natCast,Nat.mod_eq_of_lt hi]
 exact Be u e i Q2
theorem mS (e:List Int) (he:e.length=8) (hb:∀ x∈e,0<=x/\x<=1000000):Ev (fun k=>bZ k e) (sE e):=by
 have hs:∀ i,0<=sE (e.take i)/\sE (e.take i)<=1000000*8:=fun i=>by
  have:=rC (B:=1000000) Q2 (l:=e.take i) (fun x hx=>hb x (List.mem_of_mem_take hx))
  have h2:((e.take i).length:Int)<=8:=by rw [List.length_take];omega
  omega
 have main:=nL (n:=8) (P:=fun i=>aL (fun k m=>bZ.l0 k m (sE (e.take i)) e (i:Int)) (sE e)) ?_ ?_ 0 Q2
 ·exact Ev.step (fun k=>me k e) main.diag
 ·have:e.take 8=e:=List.take_of_length_le Q2
  rw [this]
  exact aL.step (fun k m=>bZ.aM k m _ _ _) (aL.bF (decide_eq_false Q2) (aL.of (aX _)))
 intro i hi ih
 refine aL.step (fun k m=>bZ.aM k m _ _ _) (aL.bT (decide_eq_true Q2) (aL.iT Q2 ?_))
 rw [pP he hi,<- mO Q2,fz Q2]
 have:=hs (i+1)
 rw [cy Q2 Q2]
 exact ih
theorem qm (a b:List Int) (ha:a.length=8) (hb:b.length=8):Ev (fun k=>bK k a b) (decide (cZ a b>0)):=by
 have main:=nL (n:=8) (P:=fun i=>aL (fun k m=>bK.l0 k m (i:Int) a b) (decide (cZ (a.drop i) (b.drop i)>0))) ?_ ?_ 0 Q2
 ·exact Ev.step (fun k=>lN k a b) main.diag
 ·rw [List.drop_of_length_le Q2]
  exact aL.step (fun k m=>bK.aM k m _ _ _) (aL.bF (decide_eq_false Q2) (aL.of (aX _)))
 intro i hi ih
 have f:i<a.length:=Q2
 have e:i<b.length:=Q2
 rw [dF f,dF e]
 refine aL.step (fun k m=>bK.aM k m _ _ _) (aL.bT (decide_eq_true Q2) (aL.iT Q2 (aL.iT Q2 ?_)))
 rw [pP ha hi,pP hb hi]
 by_cases c:a[i]=b[i]
 ·have ce:cZ (a[i] :: a.drop (i+1)) (b[i] :: b.drop (i+1))=cZ (a.drop (i+1)) (b.drop (i+1)):=by simp only [cZ,if_pos c]
  rw [ce]
  refine aL.bF (by simp [c]) ?_
  rw [fz Q2]
  exact ih
 refine aL.bT (by simp [c]) (aL.iT Q2 (aL.iT Q2 ?_))
 have ce:decide (cZ (a[i] :: a.drop (i+1)) (b[i] :: b.drop (i+1))>0)=decide (a[i]>b[i]):=by
  simp only [cZ,if_neg c]
  by_cases d:a[i]<b[i]
  ·rw [if_pos d,decide_eq_false Q2,decide_eq_false Q2]
  rw [if_neg d,decide_eq_true Q2,decide_eq_true Q2]
 rw [ce]
 exact aL.of (aX _)
theorem pj {c:Prop} [Decidable c] (h:¬ c):Ev (fun _=>some (decide c)) false:=by rw [decide_eq_false h];exact aX _
theorem wL {c:Prop} [Decidable c] (h:c):Ev (fun _=>some (decide c)) true:=by rw [decide_eq_true h];exact aX _
def ArgM (t:ah):Prop:=t.1.length<=9223372036854775807/\Arg t.2.1
def mI (p:aA):Prop:=p.2.1.length<=9223372036854775807/\∀ t∈p.2.1,ArgM t
structure TermOk (N:Int) (t:ah):Prop where
 len:(t.1.length:Int)=N
 ex:∀ x∈t.1,0<=x/\x<=40
 sum:sE t.1<=40
 co:VN 200 t.2.1
 ne:t.2.1.2.1.length≠0
abbrev cK (p:aA) (i:Nat):ah:=cE (t:=aj) p.2.1 (i:Int)
def rp (p:aA) (i:Nat):Prop:=TermOk p.1 (cK p i)/\(0<i->cZ (cK p (i-1)).1 (cK p i).1>0)
structure fE (p:aA):Prop where
 n0:0<=p.1
 n8:p.1<=8
 xm:p.2.1.length<=4000
 good:∀ i,i<p.2.1.length->rp p i
theorem yO {p:aA} (ha:mI p) {i:Nat} (hi:i<p.2.1.length):ArgM (cK p i):=by
 have:cK p i=p.2.1[i]:=cA hi
 rw [this]
 exact ha.2 _ (List.getElem_mem _)
theorem BS (v:bJ) (N:Nat):Ev (fun k=>l7 k v (N:Int)) (decide (v.2.1.length<=N/\v.2.2.1.length<=N)):=by
 by_cases c:v.2.1.length<=N
 ·by_cases d:v.2.2.1.length<=N
  ·rw [decide_eq_true ⟨c,d⟩]
   exact Ev.step (fun k=>oR k v _) (Ev.bind (a:=true) (bT (decide_eq_true Q2) (by rw [show decide ((v.2.2.1.length:Int)<=(N:Int))=true from decide_eq_true Q2];exact aX _)) (aX _))
  rw [decide_eq_false (fun h=>d h.2)]
  exact Ev.step (fun k=>oR k v _) (Ev.bind (a:=false) (bT (decide_eq_true Q2) (by rw [show decide ((v.2.2.1.length:Int)<=(N:Int))=false from decide_eq_false Q2];exact aX _)) (aX _))
 rw [decide_eq_false (fun h=>c h.1)]
 exact Ev.step (fun k=>oR k v _) (Ev.bind (a:=false) (bF (decide_eq_false Q2) (aX _)) (aX _))
theorem zA (v:bJ):∃ s,Ev (fun k=>iB k v) s/\((s==(0:Int))=decide (v.2.1.length=0)):=by
 by_cases c:v.2.1.length=0
 ·refine ⟨0,Ev.step (fun k=>lj k v) (bT (by simp [c]) (aX _)),by rw [decide_eq_true c];rfl⟩
 have hc:((List.length v.2.1:Int)==(0:Int))=false:=by simp;intro h;exact c (by rw [h];rfl)
 cases hs:v.1 with
 | true=>exact ⟨-1,Ev.step (fun k=>lj k v) (bF hc (bT hs (aX _))),by rw [decide_eq_false c];rfl⟩
 | false=>exact ⟨1,Ev.step (fun k=>lj k v) (bF hc (bF hs (aX _))),by rw [decide_eq_false c];rfl⟩
theorem HI {N:Nat} {v:bJ} (h:VN N v):v.2.1.length<=N/\v.2.2.1.length<=N:=by
 obtain ⟨q,h1,h2⟩:=h
 exact ij bw h1 h2
section
variable {p:aA} {i:Nat}
theorem Da (ha:mI p) (hi:i<p.2.1.length) (hl:(cK p i).1.length<=9223372036854775807) (hp:0<i->(cK p (i-1)).1.length<=(cK p i).1.length) {r:Bool} (hr:(sE (cK p i).1<=40/\(0<i->cZ (cK p (i-1)).1 (cK p i).1>0)/\VN 200 (cK p i).2.1)->aL (fun k m=>bB.l0 k m p.2.1 (p.2.1.length:Int) ((i+1:Nat):Int) p) r) (hf:¬ (sE (cK p i).1<=40/\(0<i->cZ (cK p (i-1)).1 (cK p i).1>0)/\VN 200 (cK p i).2.1)->r=false) :
 aL (fun k m0=>(bif decide (sE (cK p i).1>(40:Int)) then some true else (bif decide ((i:Int)>(0:Int)) then if 0<=(wrap64 ((i:Int)-(1:Int)))/\(wrap64 ((i:Int)-(1:Int)))<(List.length p.2.1:Int) then (fb k ((cE (t:=aj) p.2.1 (wrap64 ((i:Int)-(1:Int))):ah).1) (cK p i).1).bind fun (v8:Int) =>
  some (decide (v8<=(0:Int))) else none else some false).bind fun (b9:Bool) =>
  some b9).bind fun (b10:Bool) =>
  (bif b10 then some true else (fe k (cK p i).2.1 (200:Int)).bind fun (v11:Bool) =>
  some (!v11)).bind fun (b12:Bool) =>
  bif b12 then
   some false
  else
   bB.l0 k m0 p.2.1 (p.2.1.length:Int) (wrap64 ((i:Int)+(1:Int))) p) r:=by
 have b:=ha.1
 have hv:Ev (fun k=>fe k (cK p i).2.1 (200:Int)) (dc (VN 200 (cK p i).2.1)):=zy 200 Q2 (yO ha hi).2
 by_cases c1:sE (cK p i).1>40
 ·rw [hf (fun h=>Q2)]
  exact aL.bind (a:=true) (bT (decide_eq_true c1) (aX _)) (aL.bind (a:=true) (bT rfl (aX _)) (aL.bT rfl (aL.of (aX _))))
 have h2:Ev (fun k=>(bif decide ((i:Int)>(0:Int)) then if 0<=(wrap64 ((i:Int)-(1:Int)))/\(wrap64 ((i:Int)-(1:Int)))<(List.length p.2.1:Int) then (fb k ((cE (t:=aj) p.2.1 (wrap64 ((i:Int)-(1:Int))):ah).1) (cK p i).1).bind fun (v8:Int)=>some (decide (v8<=(0:Int))) else none else some false)) (dc (¬ (0<i->cZ (cK p (i-1)).1 (cK p i).1>0))):=by
  by_cases c0:0<i
  ·have e1:wrap64 ((i:Int)-1)=((i-1:Nat):Int):=by rw [cy Q2 Q2];omega
   rw [e1]
   refine bT (decide_eq_true Q2) (iT Q2 (Ev.bind (vR _ _ (hp c0) hl) ?_))
   have:decide (cZ (cK p (i-1)).1 (cK p i).1<=0)=dc (¬ (0<i->cZ (cK p (i-1)).1 (cK p i).1>0)):=CH (by
    rw [decide_eq_true_eq]
    constructor
    ·intro h h'
     have:=h' c0
     omega
    intro h
    apply Classical.byContradiction
    intro h'
    exact h (fun _=>Q2))
   rw [<- this]
   exact aX _
  rw [eC (fun h=>h (fun h'=>absurd h' c0))]
  exact bF (decide_eq_false Q2) (aX _)
 by_cases c2:(0<i->cZ (cK p (i-1)).1 (cK p i).1>0)
 ·rw [eC (fun h=>h c2)] at h2
  refine aL.bind (a:=false) (bF (decide_eq_false c1) (Ev.bind h2 (aX _))) ?_
  by_cases c3:VN 200 (cK p i).2.1
  ·rw [fD c3] at hv
   refine aL.bind (a:=false) (bF rfl (Ev.bind hv (aX _))) (aL.bF rfl ?_)
   rw [fz Q2]
   exact hr ⟨Q2,c2,c3⟩
  rw [eC c3] at hv
  rw [hf (fun h=>c3 h.2.2)]
  exact aL.bind (a:=true) (bF rfl (Ev.bind hv (aX _))) (aL.bT rfl (aL.of (aX _)))
 rw [fD c2] at h2
 rw [hf (fun h=>c2 h.2.1)]
 exact aL.bind (a:=true) (bF (decide_eq_false c1) (Ev.bind h2 (aX _))) (aL.bind (a:=true) (bT rfl (aX _)) (aL.bT rfl (aL.of (aX _))))
theorem AA (ha:mI p) (h8:p.1<=8) (hi:i<p.2.1.length) (hp:0<i->((cK p (i-1)).1.length:Int)=p.1) {r:Bool} (hr:rp p i->aL (fun k m=>bB.l0 k m p.2.1 (p.2.1.length:Int) ((i+1:Nat):Int) p) r) (hf:¬ rp p i->r=false) :
 aL (fun k m=>bB.l0 k m p.2.1 (p.2.1.length:Int) (i:Int) p) r:=by
 have u:=ha.1
 have f:=yO ha hi
 refine aL.step (fun k m=>bB.aM k m _ _ _ _) (aL.bT (decide_eq_true Q2) (aL.iT Q2 ?_))
 by_cases c1:((cK p i).1.length:Int)=p.1
 ·have b1:((List.length (cK p i).1:Int) != p.1)=false:=by simp [c1]
  have b:Ev (fun k=>l7 k (cK p i).2.1 (200:Int)) _:=BS (cK p i).2.1 200
  by_cases c2:(cK p i).2.1.2.1.length<=200/\(cK p i).2.1.2.2.1.length<=200
  ·rw [decide_eq_true c2] at b
   obtain ⟨s,e,d⟩:=zA (cK p i).2.1
   by_cases c3:(cK p i).2.1.2.1.length=0
   ·rw [decide_eq_true c3] at d
    rw [hf (fun h=>h.1.ne c3)]
    exact aL.bind (a:=false) (bF b1 (Ev.bind b (aX _))) (aL.bind (a:=true) (bF rfl (Ev.bind e (by rw [d];exact aX _))) (aL.bT rfl (aL.of (aX _))))
   rw [decide_eq_false c3] at d
   refine aL.bind (a:=false) (bF b1 (Ev.bind b (aX _))) (aL.bind (a:=false) (bF rfl (Ev.bind e (by rw [d];exact aX _))) (aL.bF rfl ?_))
   have v:(cK p i).1.length<=8:=Q2
   have tl:=Da (r:=r) ha hi f.1 (fun h0=>by have:=hp h0;omega)
   have q:∀ j,(∀ j' (h:j'<(cK p i).1.length),j'<j->0<=(cK p i).1[j']/\(cK p i).1[j']<=40)->0<=sE ((cK p i).1.take j)/\sE ((cK p i).1.take j)<=320:=fun j hg=>by
    have h1:=rC (B:=40) Q2 (l:=(cK p i).1.take j) (fun x hx=>by
     obtain ⟨j',h1,rfl⟩:=List.getElem_of_mem hx
     rw [List.length_take] at h1
     rw [List.getElem_take]
     exact hg j' Q2 Q2)
    have h2:(((cK p i).1.take j).length:Int)<=8:=by rw [List.length_take];omega
    omega
   have key:=nL (n:=(cK p i).1.length) (P:=fun j=>(∀ j' (h:j'<(cK p i).1.length),j'<j->0<=(cK p i).1[j']/\(cK p i).1[j']<=40)->eS (fun k m1 m0=>bB.l1 k m1 m0 (i:Int) (sE ((cK p i).1.take j)) p.2.1 (p.2.1.length:Int) (i:Int) (cK p i).1 ((cK p i).1.length:Int) (j:Int) p (cK p i)) r) ?_ ?_ 0 (Nat.zero_le _) (fun j' _ h=>Q2)
   ·exact key.diag
   ·intro hg
    have o:∀ x∈(cK p i).1,0<=x/\x<=40:=fun x hx=>by
     obtain ⟨j',h1,rfl⟩:=List.getElem_of_mem hx
     exact hg j' h1 h1
    rw [List.take_length]
    refine eS.step (fun k m1 m0=>bB.eH k m1 m0 _ _ _ _ _ _ _ _ _ _) (eS.bF (decide_eq_false Q2) (eS.of ?_))
    refine tl (fun h=>hr ⟨⟨c1,o,h.1,h.2.2,c3⟩,h.2.1⟩) (fun h=>hf (fun g=>h ⟨g.1.sum,g.2,g.1.co⟩))
   intro j hj ih hg
   have e1:(cE (t:=(.int .i64)) (cK p i).1 (j:Int):Int)=(cK p i).1[j]:=cA hj
   refine eS.step (fun k m1 m0=>bB.eH k m1 m0 _ _ _ _ _ _ _ _ _ _) (eS.bT (decide_eq_true Q2) (eS.iT Q2 ?_))
   rw [e1]
   by_cases g1:0<=(cK p i).1[j]/\(cK p i).1[j]<=40
   ·have b2:=q (j+1) (fun j' h1 h2=>by
     by_cases c:j'=j
     ·subst c;exact g1
     exact hg j' h1 Q2)
    have b3:=mO hj
    refine eS.bind (a:=false) (bF (decide_eq_false (show ¬ (cK p i).1[j]<0 by omega)) (pj (show ¬ (cK p i).1[j]>40 by omega))) (eS.bF rfl ?_)
    rw [<- b3,cy Q2 Q2,fz Q2]
    exact ih (fun j' h1 h2=>by
     by_cases c:j'=j
     ·subst c;exact g1
     exact hg j' h1 Q2)
   rw [hf (fun h=>g1 (h.1.ex _ (List.getElem_mem hj)))]
   refine eS.bind (a:=true) ?_ (eS.bT rfl (eS.of (aL.of (aX _))))
   by_cases g2:(cK p i).1[j]<0
   ·exact bT (decide_eq_true g2) (aX _)
   exact bF (decide_eq_false g2) (wL (show (cK p i).1[j]>40 by omega))
  rw [decide_eq_false c2] at b
  rw [hf (fun h=>c2 (HI h.1.co))]
  exact aL.bind (a:=true) (bF b1 (Ev.bind b (aX _))) (aL.bind (a:=true) (bT rfl (aX _)) (aL.bT rfl (aL.of (aX _))))
 have b1:((List.length (cK p i).1:Int) != p.1)=true:=by simp [c1]
 rw [hf (fun h=>c1 h.1.len)]
 exact aL.bind (a:=true) (bT b1 (aX _)) (aL.bind (a:=true) (bT rfl (aX _)) (aL.bT rfl (aL.of (aX _))))
theorem iv (ha:mI p):Ev (fun k=>bB k p) (dc (fE p)):=by
 have d:=ha.1
 by_cases c0:p.1<0
 ·rw [eC (fun h=>by have:=h.n0;omega)]
  exact Ev.step (fun k=>jO k p) (Ev.bind (a:=true) (bT (decide_eq_true c0) (aX _)) (Ev.bind (a:=true) (bT rfl (aX _)) (bT rfl (aX _))))
 by_cases c8:p.1>8
 ·rw [eC (fun h=>by have:=h.n8;omega)]
  exact Ev.step (fun k=>jO k p) (Ev.bind (a:=true) (bF (decide_eq_false c0) (wL c8)) (Ev.bind (a:=true) (bT rfl (aX _)) (bT rfl (aX _))))
 by_cases c4:p.2.1.length>4000
 ·rw [eC (fun h=>by have:=h.xm;omega)]
  exact Ev.step (fun k=>jO k p) (Ev.bind (a:=false) (bF (decide_eq_false c0) (pj c8)) (Ev.bind (a:=true) (bF rfl (wL Q2)) (bT rfl (aX _))))
 refine Ev.step (fun k=>jO k p) (Ev.bind (a:=false) (bF (decide_eq_false c0) (pj c8)) (Ev.bind (a:=false) (bF rfl (pj Q2)) (bF rfl (aL.diag (g:=fun k m=>bB.l0 k m p.2.1 (p.2.1.length:Int) (0:Int) p) ?_))))
 have b:=nL (n:=p.2.1.length) (P:=fun i=>(∀ j,j<i->rp p j)->aL (fun k m=>bB.l0 k m p.2.1 (p.2.1.length:Int) (i:Int) p) (dc (fE p))) ?_ ?_ 0 (Nat.zero_le _) (fun j h=>Q2)
 ·exact b
 ·intro hg
  rw [fD ⟨Q2,Q2,Q2,hg⟩]
  exact aL.step (fun k m=>bB.aM k m _ _ _ _) (aL.bF (decide_eq_false Q2) (aL.of (aX _)))
 intro i hi ih hg
 refine AA ha Q2 hi (fun h0=>(hg (i-1) Q2).1.len) (fun h=>ih (fun j hj=>?_)) (fun h=>eC (fun hv=>h (hv.good i hi)))
 by_cases c:j=i
 ·rw [c];exact h
 exact hg j Q2
end
end Go.Proofs.YtfbgaddecbiimaaGreatDoor.Q
end
