/- An evaluator of the program's code, what its functions come to, and what they mean: text 5. No condition. -/
import Init
import Derived.SizedLaws
import Derived.ChangeSlices
import Derived.Test.YtfbgaddecbiimaaGreatDoorRows
import Derived.Test.YtfbgaddecbiimaaGreatDoorCards
import Derived.Test.YtfbgaddecbiimaaGreatDoorTie
import Derived.ProofKit
import Derived.OpenShut
import Derived.ShutString
import Derived.ChangeOld
import Derived.ChangeSame
import Derived.ChangeVars
import Derived.JoinedOf
import Derived.LaidLaws
import Derived.SevenTiedAt
import Derived.Test.YtfbgaddecbiimaaGreatDoorPPowers4
set_option linter.unusedSimpArgs false
set_option linter.unusedSectionVars false
set_option linter.unusedVariables false
set_option maxRecDepth 100000
set_option maxHeartbeats 4000000
section
namespace Go.Proofs.YtfbgaddecbiimaaGreatDoor.Q
open Go.RowKit Go.Proofs.YtfbgaddecbiimaaGreatDoorW.PrintWords Go.Proofs.YtfbgaddecbiimaaGreatDoorW.PrintMore Go.Proofs.YtfbgaddecbiimaaGreatDoor.V Go.Proofs.YtfbgaddecbiimaaGreatDoor.E
abbrev aw:=List Int×cf×Unit
abbrev aT:=Int×List aw×Unit
noncomputable def fC (k:Nat) (a0:aT) (a1:Int):Option Bool:=fn T orc k 5 [.v ah a0,.v (.int .i64) a1]
noncomputable def fz (k:Nat):Option Bool:=fn T orc k 12 []
noncomputable def bu (k:Nat) (a0:aT):Option Bool:=fn T orc k 17 [.v ah a0]
noncomputable def eN (k:Nat) (a0:aT):Option Bool:=fn T orc k 19 [.v ah a0]
noncomputable def dJ (k:Nat) (a0:aT) (a1:List aw) (a2:Int):Option Bool:=fn T orc k 20 [.v ah a0,.v (.list af) a1,.v (.int .i64) a2]
noncomputable def aZ (k:Nat) (a0:List aw) (a1:List aw):Option (List aw):=fn T orc k 21 [.v (.list af) a0,.v (.list af) a1]
noncomputable def bJ (k:Nat) (a0:aT):Option (List aw):=fn T orc k 22 [.v ah a0]
noncomputable def bb (k:Nat) (a0:aT) (a1:Int) (a2:Int) (a3:Int):Option Bool:=fn T orc k 23 [.v ah a0,.v (.int .i64) a1,.v (.int .i64) a2,.v (.int .i64) a3]
noncomputable def gM (k:Nat) (a0:aT) (a1:Int):Option (aT×Int×Unit):=fn T orc k 24 [.v ah a0,.v (.int .i64) a1]
noncomputable def aR (k:Nat) (a0:List aw):Option Int:=fn T orc k 25 [.v (.list af) a0]
noncomputable def e8 (k:Nat) (a0:cf) (a1:cf):Option Int:=fn T orc k 26 [.v an a0,.v an a1]
noncomputable def eo (k:Nat):Option cf:=fn T orc k 27 []
noncomputable def bR (k:Nat) (a0:List aw) (a1:Int):Option (List aw):=fn T orc k 28 [.v (.list af) a0,.v (.int .i64) a1]
noncomputable def gL (k:Nat) (a0:cf):Option cf:=fn T orc k 30 [.v aq a0]
noncomputable def eu (k:Nat) (a0:cf) (a1:cf):Option cf:=fn T orc k 36 [.v an a0,.v an a1]
noncomputable def gf (k:Nat) (a0:cf) (a1:cf):Option cf:=fn T orc k 37 [.v an a0,.v an a1]
noncomputable def eF (k:Nat) (a0:cf):Option (List aw):=fn T orc k 40 [.v an a0]
noncomputable def aF (k:Nat) (a0:aT) (a1:aT):Option Bool:=fn T orc k 55 [.v ah a0,.v ah a1]
noncomputable def aM (k:Nat) (a0:List aw) (a1:Int):Option aT:=fn T orc k 60 [.v (.list af) a0,.v (.int .i64) a1]
noncomputable def aQ (k:Nat) (a0:aT):Option Bool:=fn T orc k 62 [.v ah a0]
noncomputable def dK (k:Nat) (a0:cf):Option cf:=fn T orc k 63 [.v an a0]
noncomputable def lK (k:Nat) (a0:cf) (a1:Int):Option Bool:=fn T orc k 70 [.v aq a0,.v (.int .i64) a1]
noncomputable def jk (k:Nat) (a0:cf):Option Int:=fn T orc k 71 [.v aq a0]
noncomputable def eV (k:Nat) (a0:List Int) (a1:List Int):Option Int:=fn T orc k 72 [.v (.list (.int .i64)) a0,.v (.list (.int .i64)) a1]
noncomputable def ef (k:Nat) (a0:cf) (a1:Int):Option Bool:=fn T orc k 73 [.v aq a0,.v (.int .i64) a1]
noncomputable def dm (k:Nat) (a0:aT) (a1:aT):Option (aT×Int×Unit):=fn T orc k 75 [.v ah a0,.v ah a1]
noncomputable def aU (k:Nat) (a0:List aw) (a1:aw):Option (List aw):=fn T orc k 76 [.v (.list af) a0,.v af a1]
noncomputable def bI (k:Nat) (a0:List aw) (a1:List Int) (a2:cf):Option (List aw):=fn T orc k 77 [.v (.list af) a0,.v (.arr 8 (.int .i64)) a1,.v an a2]
noncomputable def cw (k:Nat) (a0:cf) (a1:Int):Option Bool:=fn T orc k 78 [.v aq a0,.v (.int .i64) a1]
noncomputable def bX (k:Nat) (a0:aT) (a1:Int):Option (aT×Int×Unit):=fn T orc k 79 [.v ah a0,.v (.int .i64) a1]
noncomputable def bL (k:Nat) (a0:List Int):Option Int:=fn T orc k 80 [.v (.arr 8 (.int .i64)) a0]
noncomputable def dO (k:Nat) (a0:cf):Option Int:=fn T orc k 81 [.v an a0]
noncomputable def ga (k:Nat) (a0:cf) (a1:cf):Option cf:=fn T orc k 82 [.v an a0,.v an a1]
noncomputable def eG (k:Nat) (a0:cf):Option Bool:=fn T orc k 83 [.v aq a0]
noncomputable def bE (k:Nat) (a0:List Int):Option (List Int):=fn T orc k 84 [.v (.list (.int .u32)) a0]
noncomputable def dY (k:Nat) (a0:aT):Option (aT×Int×Unit):=fn T orc k 91 [.v ah a0]
noncomputable def dP (k:Nat) (a0:cf) (a1:cf):Option Bool:=fn T orc k 92 [.v aq a0,.v aq a1]
noncomputable def fI (k:Nat):Option cf:=fn T orc k 93 []
noncomputable def ax (k:Nat) (a0:List Int) (a1:List Int):Option (List Int):=fn T orc k 95 [.v (.list (.int .i64)) a0,.v (.list (.int .i64)) a1]
noncomputable def dh (k:Nat) (a0:Bool) (a1:List Int) (a2:List Int):Option cf:=fn T orc k 96 [.v .bool a0,.v (.list (.int .i64)) a1,.v (.list (.int .i64)) a2]
noncomputable def az (k:Nat) (a0:List Int) (a1:List Int):Option (List Int):=fn T orc k 97 [.v (.list (.int .i64)) a0,.v (.list (.int .i64)) a1]
noncomputable def aG (k:Nat) (a0:List Int) (a1:List Int):Option Int:=fn T orc k 98 [.v (.list (.int .i64)) a0,.v (.list (.int .i64)) a1]
noncomputable def aJ (k:Nat) (a0:List Int) (a1:List Int):Option (List Int):=fn T orc k 99 [.v (.list (.int .i64)) a0,.v (.list (.int .i64)) a1]
noncomputable def cL (k:Nat) (a0:aT):Option Int:=fn T orc k 100 [.v ah a0]
noncomputable def nB (k:Nat) (a0:Int) (a1:cf):Option aT:=fn T orc k 102 [.v (.int .i64) a0,.v aq a1]
noncomputable def zO (k:Nat) (a0:Int):Option aT:=fn T orc k 111 [.v (.int .i64) a0]
noncomputable def yu (k:Nat):Option cf:=fn T orc k 112 []
noncomputable def bm (k:Nat) (a0:List Int) (a1:List Int):Option Bool:=fn T orc k 117 [.v (.arr 8 (.int .i64)) a0,.v (.arr 8 (.int .i64)) a1]
noncomputable def aB (k:Nat) (a0:List Int):Option (List Int):=fn T orc k 118 [.v (.list (.int .i64)) a0]
noncomputable def iQ (k:Nat) (a0:List Int) (a1:Int):Option Bool:=fn T orc k 128 [.v (.list (.int .u32)) a0,.v (.int .i64) a1]
noncomputable def bU (k:Nat) (a0:List Int) (a1:List Int):Option (List Int):=fn T orc k 129 [.v (.list (.int .u32)) a0,.v (.list (.int .u32)) a1]
noncomputable def eU (k:Nat) (a0:aT) (a1:aT):Option aT:=fn T orc k 130 [.v ah a0,.v ah a1]
noncomputable def gb (k:Nat) (a0:cf):Option cf:=fn T orc k 131 [.v an a0]
noncomputable def bD (k:Nat) (a0:List Int):Option Bool:=fn T orc k 132 [.v (.list (.int .u32)) a0]
noncomputable def ay (k:Nat) (a0:List Int) (a1:List Int):Option (List Int):=fn T orc k 133 [.v (.list (.int .i64)) a0,.v (.list (.int .i64)) a1]
noncomputable def au (k:Nat) (a0:List Int) (a1:Int) (a2:Int):Option (List Int):=fn T orc k 134 [.v (.list (.int .i64)) a0,.v (.int .i64) a1,.v (.int .i64) a2]
noncomputable def ik (k:Nat) (a0:cf) (a1:cf):Option cf:=fn T orc k 90 [.v aq a0,.v aq a1]
noncomputable def nK (k:Nat):Option cf:=fn T orc k 135 []
noncomputable def ru (k:Nat) (a0:cf) (a1:cf):Option cf:=fn T orc k 136 [.v aq a0,.v aq a1]
noncomputable def fY (k:Nat) (a0:aT):Option aT:=fn T orc k 143 [.v ah a0]
noncomputable def aA (k:Nat) (a0:List Int) (a1:List Int):Option Bool:=fn T orc k 144 [.v (.list (.int .u32)) a0,.v (.list (.int .u32)) a1]
noncomputable def aC (k:Nat) (a0:List Int) (a1:List Int):Option (List Int×List Int×Unit):=fn T orc k 147 [.v (.list (.int .i64)) a0,.v (.list (.int .i64)) a1]
noncomputable def fy (k:Nat) (a0:List Int):Option Int:=fn T orc k 149 [.v (.list (.int .i64)) a0]
noncomputable def qh (k:Nat) (a0:cf):Option cf:=fn T orc k 150 [.v aq a0]
noncomputable def D8 (k:Nat) (a0:Int):Option cf:=fn T orc k 151 [.v (.int .i64) a0]
noncomputable def cm (k:Nat) (a0:aT) (a1:aw):Option aT:=fn T orc k 155 [.v ah a0,.v ai a1]
noncomputable def ba (k:Nat) (a0:Int) (a1:List aw):Option aT:=fn T orc k 167 [.v (.int .i64) a0,.v (.list ai) a1]
noncomputable def cY (k:Nat) (a0:List Int) (a1:List Int):Option Int:=fn T orc k 138 [.v (.list (.int .u32)) a0,.v (.list (.int .u32)) a1]
noncomputable def bG (k:Nat) (a0:List Int) (a1:List Int):Option (List Int):=fn T orc k 139 [.v (.list (.int .u32)) a0,.v (.list (.int .u32)) a1]
noncomputable def di (k:Nat) (a0:Bool) (a1:List Int) (a2:List Int):Option cf:=fn T orc k 140 [.v .bool a0,.v (.list (.int .u32)) a1,.v (.list (.int .u32)) a2]
noncomputable def cM (k:Nat) (a0:List Int) (a1:List Int):Option (List Int):=fn T orc k 141 [.v (.list (.int .u32)) a0,.v (.list (.int .u32)) a1]
noncomputable def cW (k:Nat) (a0:List Int) (a1:List Int):Option (List Int):=fn T orc k 142 [.v (.list (.int .u32)) a0,.v (.list (.int .u32)) a1]
noncomputable def cK (k:Nat) (a0:Int):Option (List Int):=fn T orc k 159 [.v (.int .u64) a0]
noncomputable def gJ (k:Nat) (a0:List Int):Option ByteArray:=fn T orc k 186 [.v (.list (.int .i64)) a0]
noncomputable def aI (k:Nat) (a0:List Int) (a1:List Int):Option (List Int×List Int×Unit):=fn T orc k 160 [.v (.list (.int .u32)) a0,.v (.list (.int .u32)) a1]
noncomputable def bu.l0 (k m0:Nat) (x23:List aw) (x24:Int) (x25:Int) (r1:aT):Option Bool:=lAt T orc k 17 Tryz.f17 none [1,1,0,1,0] m0 [] ⟨[(1,.po 1 0 []),(23,.v (.list ai) x23),(24,.v (.int .i64) x24),(25,.v (.int .i64) x25)],[(1,.box 24 ah r1)]⟩
noncomputable def bu.l1 (k m1:Nat) (m0:Nat) (x3:Int) (x5:Int) (x23:List aw) (x24:Int) (x25:Int) (x49:List Int) (x50:Int) (x51:Int) (r1:aT) (r4:aw):Option Bool:=lAt T orc k 17 Tryz.f17 none [1,1,0,1,0,0,1,1,0,0,1,1,1,0,1,0] m1 [m0] ⟨[(1,.po 1 0 []),(3,.v (.int .i64) x3),(4,.po 4 0 []),(5,.v (.int .i64) x5),(23,.v (.list ai) x23),(24,.v (.int .i64) x24),(25,.v (.int .i64) x25),(49,.v (.list (.int .i64)) x49),(50,.v (.int .i64) x50),(51,.v (.int .i64) x51)],[(1,.box 24 ah r1),(4,.box 96 ai r4)]⟩
noncomputable def aZ.l0 (k m0:Nat) (x1:List aw) (x10:List aw) (x11:Int) (x12:Int) (r5:List aw):Option (List aw):=lAt T orc k 21 Tryz.f21 none [1,1,0,1,0] m0 [] ⟨[(1,.v (.list af) x1),(5,.own 5),(10,.v (.list af) x10),(11,.v (.int .i64) x11),(12,.v (.int .i64) x12)],[(5,.arr 53 af r5)]⟩
noncomputable def aZ.l1 (k m1:Nat) (m0:Nat) (x1:List aw) (x10:List aw) (x11:Int) (x12:Int) (x18:List aw) (x19:Int) (x20:Int) (r5:List aw):Option (List aw):=lAt T orc k 21 Tryz.f21 none [1,1,0,1,0,0,1,1,0,0,1,1,0] m1 [m0] ⟨[(1,.v (.list af) x1),(5,.own 5),(10,.v (.list af) x10),(11,.v (.int .i64) x11),(12,.v (.int .i64) x12),(18,.v (.list af) x18),(19,.v (.int .i64) x19),(20,.v (.int .i64) x20)],[(5,.arr 53 af r5)]⟩
noncomputable def bJ.l0 (k m0:Nat) (x8:List aw) (x9:Int) (x10:Int) (r3:List aw):Option (List aw):=lAt T orc k 22 Tryz.f22 none [1,1,0,1,0] m0 [] ⟨[(3,.own 3),(8,.v (.list ai) x8),(9,.v (.int .i64) x9),(10,.v (.int .i64) x10)],[(3,.arr 53 af r3)]⟩
noncomputable def bb.l0 (k m0:Nat) (x2:Int) (x3:Int) (x27:List aw) (x28:Int) (x29:Int) (r4:aT):Option Bool:=lAt T orc k 23 Tryz.f23 none [1,1,0,1,0] m0 [] ⟨[(2,.v (.int .i64) x2),(3,.v (.int .i64) x3),(4,.po 4 0 []),(27,.v (.list ai) x27),(28,.v (.int .i64) x28),(29,.v (.int .i64) x29)],[(4,.box 24 ah r4)]⟩
noncomputable def aR.l0 (k m0:Nat) (x3:Int) (x6:List aw) (x7:Int) (x8:Int):Option Int:=lAt T orc k 25 Tryz.f25 none [1,1,0,1,0] m0 [] ⟨[(3,.v (.int .i64) x3),(6,.v (.list af) x6),(7,.v (.int .i64) x7),(8,.v (.int .i64) x8)],[]⟩
noncomputable def bR.l0 (k m0:Nat) (x0:List aw) (x5:List aw) (x8:Int) (x9:Int):Option (List aw):=lAt T orc k 28 Tryz.f28 none [1,1,0,1,0] m0 [] ⟨[(0,.v (.list af) x0),(5,.v (.list af) x5),(8,.v (.int .i64) x8),(9,.v (.int .i64) x9)],[]⟩
noncomputable def aF.l0 (k m0:Nat) (x24:List aw) (x25:Int) (x26:Int) (r3:aT):Option Bool:=lAt T orc k 55 Tryz.f55 none [1,1,0,1,0] m0 [] ⟨[(3,.po 3 0 []),(24,.v (.list ai) x24),(25,.v (.int .i64) x25),(26,.v (.int .i64) x26)],[(3,.box 24 ah r3)]⟩
noncomputable def aF.l1 (k m1:Nat) (m0:Nat) (x24:List aw) (x25:Int) (x26:Int) (x53:Int) (x54:Int) (r3:aT) (r6:aw) (r7:aw):Option Bool:=lAt T orc k 55 Tryz.f55 none [1,1,0,1,0,0,1,1,0,0,1,1,1,1,0] m1 [m0] ⟨[(3,.po 3 0 []),(6,.po 6 0 []),(7,.po 7 0 []),(24,.v (.list ai) x24),(25,.v (.int .i64) x25),(26,.v (.int .i64) x26),(53,.v (.int .i64) x53),(54,.v (.int .i64) x54)],[(3,.box 24 ah r3),(6,.box 96 ai r6),(7,.box 96 ai r7)]⟩
noncomputable def aM.l0 (k m0:Nat) (x0:List aw) (x1:Int) (x16:Int) (x17:Int) (r4:aT) (q5_0:Int) (r11:List aw) (r14:List Bool):Option aT:=lAt T orc k 60 Tryz.f60 none [1,1,1,0,1,0] m0 [] ⟨[(0,.v (.list af) x0),(1,.v (.int .i64) x1),(4,.po 4 0 []),(5,.po 2000005 0 []),(6,.own 14),(16,.v (.int .i64) x16),(17,.v (.int .i64) x17)],[(4,.box 24 ah r4),(2000005,.obox 24 [.v (.int .i64) q5_0,.own 11]),(11,.arr 96 ai r11),(14,.arr 4 .bool r14)]⟩
noncomputable def aM.l1 (k m1:Nat) (m0:Nat) (x0:List aw) (x1:Int) (x7:Int) (x16:Int) (x17:Int) (x19:List aw) (x20:Int) (x21:Int) (r4:aT) (q5_0:Int) (r11:List aw) (r14:List Bool):Option aT:=lAt T orc k 60 Tryz.f60 none [1,1,1,0,1,0,0,1,1,0,0,1,0,1,0] m1 [m0] ⟨[(0,.v (.list af) x0),(1,.v (.int .i64) x1),(4,.po 4 0 []),(5,.po 2000005 0 []),(6,.own 14),(7,.v (.int .i64) x7),(16,.v (.int .i64) x16),(17,.v (.int .i64) x17),(19,.v (.list af) x19),(20,.v (.int .i64) x20),(21,.v (.int .i64) x21)],[(4,.box 24 ah r4),(2000005,.obox 24 [.v (.int .i64) q5_0,.own 11]),(11,.arr 96 ai r11),(14,.arr 4 .bool r14)]⟩
noncomputable def aQ.l0 (k m0:Nat) (x24:List aw) (x25:Int) (x26:Int) (r1:aT) (r3:List Int):Option Bool:=lAt T orc k 62 Tryz.f62 none [1,1,1,0,1,0] m0 [] ⟨[(1,.po 1 0 []),(3,.po 3 0 []),(24,.v (.list ai) x24),(25,.v (.int .i64) x25),(26,.v (.int .i64) x26)],[(1,.box 24 ah r1),(3,.box 47 (.arr 8 (.int .i64)) r3)]⟩
noncomputable def aQ.l1 (k m1:Nat) (m0:Nat) (x4:Int) (x24:List aw) (x25:Int) (x26:Int) (x57:List Int) (x58:Int) (x59:Int) (r1:aT) (r3:List Int) (r6:List Int):Option Bool:=lAt T orc k 62 Tryz.f62 none [1,1,1,0,1,0,0,1,1,0,0,1,1,1,0,1,0] m1 [m0] ⟨[(1,.po 1 0 []),(3,.po 3 0 []),(4,.v (.int .i64) x4),(6,.po 6 0 []),(24,.v (.list ai) x24),(25,.v (.int .i64) x25),(26,.v (.int .i64) x26),(57,.v (.list (.int .i64)) x57),(58,.v (.int .i64) x58),(59,.v (.int .i64) x59)],[(1,.box 24 ah r1),(3,.box 47 (.arr 8 (.int .i64)) r3),(6,.box 47 (.arr 8 (.int .i64)) r6)]⟩
noncomputable def eV.l0 (k m0:Nat) (x1:List Int) (x7:List Int) (x8:Int) (x9:Int):Option Int:=lAt T orc k 72 Tryz.f72 none [1,0,1,0] m0 [] ⟨[(1,.v (.list (.int .i64)) x1),(7,.v (.list (.int .i64)) x7),(8,.v (.int .i64) x8),(9,.v (.int .i64) x9)],[]⟩
noncomputable def aU.l0 (k m0:Nat) (x10:List aw) (x11:Int) (x12:Int) (r3:aw) (r5:List aw):Option (List aw):=lAt T orc k 76 Tryz.f76 none [1,1,0,1,0] m0 [] ⟨[(3,.po 3 0 []),(5,.own 5),(10,.v (.list af) x10),(11,.v (.int .i64) x11),(12,.v (.int .i64) x12)],[(3,.box 53 af r3),(5,.arr 53 af r5)]⟩
noncomputable def aU.l1 (k m1:Nat) (m0:Nat) (x10:List aw) (x11:Int) (x12:Int) (x18:Int) (r3:aw) (r5:List aw) (r7:aw) (r8:List Int):Option (List aw):=lAt T orc k 76 Tryz.f76 none [1,1,0,1,0,0,1,1,0,0,1,1,0,1,0] m1 [m0] ⟨[(3,.po 3 0 []),(5,.own 5),(7,.po 7 0 []),(8,.po 8 0 []),(10,.v (.list af) x10),(11,.v (.int .i64) x11),(12,.v (.int .i64) x12),(18,.v (.int .i64) x18)],[(3,.box 53 af r3),(5,.arr 53 af r5),(7,.box 53 af r7),(8,.box 47 (.arr 8 (.int .i64)) r8)]⟩
noncomputable def bI.l0 (k m0:Nat) (x14:Int) (x15:Int) (rl:List aw) (r4:List Int) (r5:cf):Option (List aw):=lAt T orc k 77 Tryz.f77 (some (53,.unit)) [1,1,0,1,0] m0 [] ⟨[(0,.own 1000000),(4,.po 4 0 []),(5,.po 5 0 []),(14,.v (.int .i64) x14),(15,.v (.int .i64) x15)],[(dg,.arr 53 af rl),(4,.box 47 (.arr 8 (.int .i64)) r4),(5,.box 51 an r5),(dg,.arr 53 af rl)]⟩
noncomputable def bX.l0 (k m0:Nat) (x1:Int) (x7:Int) (r2:aT) (r4:aT) (r6:aT):Option (aT×Int×Unit):=lAt T orc k 79 Tryz.f79 none [1,1,1,0,0] m0 [] ⟨[(1,.v (.int .i64) x1),(2,.po 2 0 []),(4,.po 4 0 []),(6,.po 6 0 []),(7,.v (.int .i64) x7)],[(2,.box 24 ah r2),(4,.box 24 ah r4),(6,.box 24 ah r6)]⟩
noncomputable def bL.l0 (k m0:Nat) (x3:Int) (x6:List Int) (x7:Int):Option Int:=lAt T orc k 80 Tryz.f80 none [1,1,0,1,0] m0 [] ⟨[(3,.v (.int .i64) x3),(6,.v (.arr 8 (.int .i64)) x6),(7,.v (.int .i64) x7)],[]⟩
noncomputable def bE.l0 (k m0:Nat) (x0:List Int) (x3:List Int) (x4:Int):Option (List Int):=lAt T orc k 84 Tryz.f84 none [1,1,0,1,0] m0 [] ⟨[(0,.v (.list (.int .u32)) x0),(3,.v (.list (.int .i64)) x3),(4,.v (.int .i64) x4)],[]⟩
noncomputable def cL.l0 (k m0:Nat) (x3:Int) (x7:List aw) (x8:Int) (x9:Int):Option Int:=lAt T orc k 100 Tryz.f100 none [1,1,0,1,0] m0 [] ⟨[(3,.v (.int .i64) x3),(7,.v (.list ai) x7),(8,.v (.int .i64) x8),(9,.v (.int .i64) x9)],[]⟩
noncomputable def bm.l0 (k m0:Nat) (x6:Int) (r2:List Int) (r3:List Int):Option Bool:=lAt T orc k 117 Tryz.f117 none [1,0,1,0] m0 [] ⟨[(2,.po 2 0 []),(3,.po 3 0 []),(6,.v (.int .i64) x6)],[(2,.box 47 (.arr 8 (.int .i64)) r2),(3,.box 47 (.arr 8 (.int .i64)) r3)]⟩
noncomputable def eU.l0 (k m0:Nat) (x9:List aw) (x10:Int) (x11:Int) (r2:aT) (r3:aT) (r4:aT) (r5:List aw):Option aT:=lAt T orc k 130 Tryz.f130 none [1,1,0,1,0] m0 [] ⟨[(2,.po 2 0 []),(3,.po 3 0 []),(4,.po 4 0 []),(5,.own 5),(9,.v (.list ai) x9),(10,.v (.int .i64) x10),(11,.v (.int .i64) x11)],[(2,.box 24 ah r2),(3,.box 24 ah r3),(4,.box 24 ah r4),(5,.arr 96 ai r5)]⟩
noncomputable def fY.l0 (k m0:Nat) (x10:List aw) (x11:Int) (x12:Int) (r1:aT) (r2:aT) (q3_0:Int) (r8:List aw):Option aT:=lAt T orc k 143 Tryz.f143 none [1,1,0,1,0] m0 [] ⟨[(1,.po 1 0 []),(2,.po 2 0 []),(3,.po 2000003 0 []),(10,.v (.list ai) x10),(11,.v (.int .i64) x11),(12,.v (.int .i64) x12)],[(1,.box 24 ah r1),(2,.box 24 ah r2),(2000003,.obox 24 [.v (.int .i64) q3_0,.own 8]),(8,.arr 96 ai r8)]⟩
noncomputable def fy.l0 (k m0:Nat) (x3:Int) (x6:List Int) (x7:Int) (x8:Int):Option Int:=lAt T orc k 149 Tryz.f149 none [1,1,0,1,0] m0 [] ⟨[(3,.v (.int .i64) x3),(6,.v (.list (.int .i64)) x6),(7,.v (.int .i64) x7),(8,.v (.int .i64) x8)],[]⟩
noncomputable def cm.l0 (k m0:Nat) (x14:List aw) (x15:Int) (x16:Int) (r2:aT) (r3:aw) (r4:aT) (q5_0:Int) (r12:List aw):Option aT:=lAt T orc k 155 Tryz.f155 none [1,1,0,1,0] m0 [] ⟨[(2,.po 2 0 []),(3,.po 3 0 []),(4,.po 4 0 []),(5,.po 2000005 0 []),(14,.v (.list ai) x14),(15,.v (.int .i64) x15),(16,.v (.int .i64) x16)],[(2,.box 24 ah r2),(3,.box 96 ai r3),(4,.box 24 ah r4),(2000005,.obox 24 [.v (.int .i64) q5_0,.own 12]),(12,.arr 96 ai r12)]⟩
noncomputable def cm.l1 (k m1:Nat) (m0:Nat) (x14:List aw) (x15:Int) (x16:Int) (x24:Int) (x25:Int) (r2:aT) (r3:aw) (r4:aT) (q5_0:Int) (r12:List aw) (r7:aw) (r22:List Int):Option aT:=lAt T orc k 155 Tryz.f155 none [1,1,0,1,0,0,1,1,0,0,1,1,0,1,0] m1 [m0] ⟨[(2,.po 2 0 []),(3,.po 3 0 []),(4,.po 4 0 []),(5,.po 2000005 0 []),(7,.po 7 0 []),(8,.own 22),(14,.v (.list ai) x14),(15,.v (.int .i64) x15),(16,.v (.int .i64) x16),(24,.v (.int .i64) x24),(25,.v (.int .i64) x25)],[(2,.box 24 ah r2),(3,.box 96 ai r3),(4,.box 24 ah r4),(2000005,.obox 24 [.v (.int .i64) q5_0,.own 12]),(12,.arr 96 ai r12),(7,.box 96 ai r7),(22,.arr 3 (.int .i64) r22)]⟩
noncomputable def ba.l0 (k m0:Nat) (x0:Int) (x5:List (ByteArray×Int)) (x16:List aw) (x17:Int) (x18:Int) (r4:aT) (r6:List aw):Option aT:=lAt T orc k 167 Tryz.f167 none [1,1,1,0,1,0] m0 [] ⟨[(0,.v (.int .i64) x0),(4,.po 4 0 []),(5,.mp x5),(6,.own 6),(16,.v (.list ai) x16),(17,.v (.int .i64) x17),(18,.v (.int .i64) x18)],[(4,.box 24 ah r4),(6,.arr 96 ai r6)]⟩
noncomputable def ba.l1 (k m0:Nat) (x56:List aw) (x57:Int) (x58:Int) (r4:aT) (q12_0:Int) (r55:List aw):Option aT:=lAt T orc k 167 Tryz.f167 none [1,1,1,1,1,0,1,0] m0 [] ⟨[(4,.po 4 0 []),(12,.po 2000012 0 []),(56,.v (.list ai) x56),(57,.v (.int .i64) x57),(58,.v (.int .i64) x58)],[(4,.box 24 ah r4),(2000012,.obox 24 [.v (.int .i64) q12_0,.own 55]),(55,.arr 96 ai r55)]⟩
noncomputable def gJ.l0 (k m0:Nat) (x10:List Int) (x11:Int) (x12:Int) (r9:List Int):Option ByteArray:=lAt T orc k 186 Tryz.f186 none [1,1,0,1,0] m0 [] ⟨[(3,.own 9),(10,.v (.list (.int .i64)) x10),(11,.v (.int .i64) x11),(12,.v (.int .i64) x12)],[(9,.arr 5 (.int .u8) r9)]⟩
noncomputable def aM.j0 (k:Nat) (m0 m1:Nat) (x0:List aw) (x1:Int) (x7:Int) (x16:Int) (x17:Int) (x19:List aw) (x20:Int) (x21:Int) (r4:aT) (q5_0:Int) (r11:List aw) (r14:List Bool):Option aT :=
 aM.l1 k m1 m0 x0 x1 x7 x16 x17 x19 x20 (wrap64 (x21+(1:Int))) r4 q5_0 r11 r14
noncomputable def eU.j0 (k:Nat) (m0:Nat) (x9:List aw) (x10:Int) (x11:Int) (r2:aT) (r3:aT) (r4:aT) (r5:List aw):Option aT :=
 eU.l0 k m0 x9 x10 (wrap64 (x11+(1:Int))) r2 r3 r4 r5
noncomputable def ik.j0 (k:Nat) (x5:List Int) (x6:List Int) (x7:List Int) (r2:cf) (r3:cf) (r4:cf):Option cf :=
 bif r2.1==r3.1 then
  (cM k x5 x6).bind fun (v5:List Int) =>
  (di k r2.1 v5 x7).bind fun (v6:cf) =>
  some v6
 else
  (cY k x5 x6).bind fun (v7:Int) =>
  bif decide (v7>=(0:Int)) then
   (cW k x5 x6).bind fun (v8:List Int) =>
   (di k r2.1 v8 x7).bind fun (v9:cf) =>
   some v9
  else
   (cW k x6 x5).bind fun (v10:List Int) =>
   (di k r3.1 v10 x7).bind fun (v11:cf) =>
   some v11
noncomputable def ba.j1 (k:Nat) (m0:Nat) (x56:List aw) (x57:Int) (x58:Int) (r4:aT) (q12_0:Int) (r55:List aw):Option aT :=
 ba.l1 k m0 x56 x57 (wrap64 (x58+(1:Int))) r4 q12_0 r55
noncomputable def ba.j0 (k:Nat) (m0:Nat) (x0:Int) (x5:List (ByteArray×Int)) (x16:List aw) (x17:Int) (x18:Int) (r4:aT) (r6:List aw):Option aT :=
 ba.l0 k m0 x0 x5 x16 x17 (wrap64 (x18+(1:Int))) r4 r6
noncomputable def di.j0 (k:Nat) (x0:Bool) (x1:List Int) (x2:List Int) (r6:cf):Option cf :=
 if List.length x1*4<=140737488355328 then if List.length x2*4<=140737488355328 then some (x0,x1,x2,()) else none else none
theorem iz (k:Nat) (a0:aT) (a1:Int):fC (k+1) a0 a1 =
 (fz k ).bind fun (v1:Bool) =>
 bif !v1 then
  some false
 else
  (bb k a0 (4:Int) (8:Int) (1:Int)).bind fun (v2:Bool) =>
  bif !v2 then
   some true
  else
   (bJ k a0).bind fun (v3:List aw) =>
   (gM k a0 a1).bind fun (v4:aT×Int×Unit) =>
   (bif decide (a1<(0:Int)) then some true else some (decide (a1>(40:Int)))).bind fun (b5:Bool) =>
   bif b5 then
    (bif v4.2.1==(1:Int) then (eN k v4.1).bind fun (v6:Bool) =>
    some v6 else some false).bind fun (b7:Bool) =>
    some b7
   else
    (aR k v3).bind fun (v8:Int) =>
    bif decide ((wrap64 (v8*a1))>(40:Int)) then
     (bif v4.2.1==(2:Int) then (eN k v4.1).bind fun (v9:Bool) =>
     some v9 else some false).bind fun (b10:Bool) =>
     some b10
    else
     (bif decide (a1>(6:Int)) then (bif (List.length v3:Int) != (1:Int) then some true else if 0<=(0:Int)/\(0:Int)<(List.length v3:Int) then (eo k ).bind fun (v11:cf) =>
     (e8 k (((rdT (t:=af) v3 (0:Int):aw).2).1) v11).bind fun (v12:Int) =>
     some (v12 != (0:Int)) else none).bind fun (b13:Bool) =>
     some b13 else some false).bind fun (b14:Bool) =>
     bif b14 then
      some true
     else
      (bif v4.2.1==(0:Int) then (bR k v3 a1).bind fun (v15:List aw) =>
      (dJ k v4.1 v15 a0.1).bind fun (v16:Bool) =>
      some v16 else some false).bind fun (b17:Bool) =>
      some b17:=by
 kernel_rfl
theorem iw (k:Nat) (a0:aT):bu (k+1) a0 =
 (bif decide (a0.1<(0:Int)) then some true else some (decide (a0.1>(8:Int)))).bind fun (b1:Bool) =>
 (bif b1 then some true else some (decide ((List.length a0.2.1:Int)>(4000:Int)))).bind fun (b2:Bool) =>
 bif b2 then
  some false
 else
  bu.l0 k k a0.2.1 (List.length a0.2.1:Int) (0:Int) a0:=by
 kernel_rfl
theorem bu.aV (k m0:Nat) (x23:List aw) (x24:Int) (x25:Int) (r1:aT):bu.l0 k (m0+1) x23 x24 x25 r1 =
 bif decide (x25<x24) then
  if 0<=x25/\x25<(List.length x23:Int) then (bif (List.length ((rdT (t:=ai) x23 x25:aw).1):Int) != r1.1 then some true else (lK k (((rdT (t:=ai) x23 x25:aw).2).1) (200:Int)).bind fun (v3:Bool) =>
  some (!v3)).bind fun (b4:Bool) =>
  (bif b4 then some true else (jk k (((rdT (t:=ai) x23 x25:aw).2).1)).bind fun (v5:Int) =>
  some (v5==(0:Int))).bind fun (b6:Bool) =>
  bif b6 then
   some false
  else
   bu.l1 k k m0 x25 (0:Int) x23 x24 x25 ((rdT (t:=ai) x23 x25:aw).1) (List.length ((rdT (t:=ai) x23 x25:aw).1):Int) (0:Int) r1 (rdT (t:=ai) x23 x25:aw) else none
 else
  some true:=by
 kernel_rfl
theorem bu.dN (k m1:Nat) (m0:Nat) (x3:Int) (x5:Int) (x23:List aw) (x24:Int) (x25:Int) (x49:List Int) (x50:Int) (x51:Int) (r1:aT) (r4:aw):bu.l1 k (m1+1) m0 x3 x5 x23 x24 x25 x49 x50 x51 r1 r4 =
 bif decide (x51<x50) then
  if 0<=x51/\x51<(List.length x49:Int) then (bif decide ((rdT (t:=(.int .i64)) x49 x51:Int)<(0:Int)) then some true else some (decide ((rdT (t:=(.int .i64)) x49 x51:Int)>(40:Int)))).bind fun (b7:Bool) =>
  bif b7 then
   some false
  else
   bu.l1 k m1 m0 x3 (wrap64 (x5+(rdT (t:=(.int .i64)) x49 x51:Int))) x23 x24 x25 x49 x50 (wrap64 (x51+(1:Int))) r1 r4 else none
 else
  (bif decide (x5>(40:Int)) then some true else (bif decide (x3>(0:Int)) then if 0<=(wrap64 (x3-(1:Int)))/\(wrap64 (x3-(1:Int)))<(List.length r1.2.1:Int) then (eV k ((rdT (t:=ai) r1.2.1 (wrap64 (x3-(1:Int))):aw).1) r4.1).bind fun (v8:Int) =>
  some (decide (v8<=(0:Int))) else none else some false).bind fun (b9:Bool) =>
  some b9).bind fun (b10:Bool) =>
  (bif b10 then some true else (ef k r4.2.1 (200:Int)).bind fun (v11:Bool) =>
  some (!v11)).bind fun (b12:Bool) =>
  bif b12 then
   some false
  else
   bu.l0 k m0 x23 x24 (wrap64 (x25+(1:Int))) r1:=by
 kernel_rfl
theorem ko (k:Nat) (a0:aT):eN (k+1) a0 =
 (bif a0.1==(0:Int) then some ((List.length a0.2.1:Int)==(0:Int)) else some false).bind fun (b1:Bool) =>
 some b1:=by
 kernel_rfl
theorem lX (k:Nat) (a0:aT) (a1:List aw) (a2:Int):dJ (k+1) a0 a1 a2 =
 (aM k a1 a2).bind fun (v1:aT) =>
 (aF k a0 v1).bind fun (v2:Bool) =>
 some v2:=by
 kernel_rfl
theorem kK (k:Nat) (a0:List aw) (a1:List aw):aZ (k+1) a0 a1 =
 aZ.l0 k k a1 a0 (List.length a0:Int) (0:Int) ([]:List aw):=by
 kernel_rfl
theorem aZ.aV (k m0:Nat) (x1:List aw) (x10:List aw) (x11:Int) (x12:Int) (r5:List aw):aZ.l0 k (m0+1) x1 x10 x11 x12 r5 =
 bif decide (x12<x11) then
  if 0<=x12/\x12<(List.length x10:Int) then (aU k x1 (rdT (t:=af) x10 x12:aw)).bind fun (v1:List aw) =>
  aZ.l1 k k m0 x1 x10 x11 x12 v1 (List.length v1:Int) (0:Int) r5 else none
 else
  some r5:=by
 kernel_rfl
theorem aZ.dN (k m1:Nat) (m0:Nat) (x1:List aw) (x10:List aw) (x11:Int) (x12:Int) (x18:List aw) (x19:Int) (x20:Int) (r5:List aw):aZ.l1 k (m1+1) m0 x1 x10 x11 x12 x18 x19 x20 r5 =
 bif decide (x20<x19) then
  if 0<=x20/\x20<(List.length x18:Int) then (bI k r5 ((rdT (t:=af) x18 x20:aw).1) (((rdT (t:=af) x18 x20:aw).2).1)).bind fun (v2:List aw) =>
  aZ.l1 k m1 m0 x1 x10 x11 x12 x18 x19 (wrap64 (x20+(1:Int))) v2 else none
 else
  aZ.l0 k m0 x1 x10 x11 (wrap64 (x12+(1:Int))) r5:=by
 kernel_rfl
theorem lW (k:Nat) (a0:aT):bJ (k+1) a0 =
 bJ.l0 k k a0.2.1 (List.length a0.2.1:Int) (0:Int) ([]:List aw):=by
 kernel_rfl
theorem bJ.aV (k m0:Nat) (x8:List aw) (x9:Int) (x10:Int) (r3:List aw):bJ.l0 k (m0+1) x8 x9 x10 r3 =
 bif decide (x10<x9) then
  if 0<=x10/\x10<(List.length x8:Int) then if List.length (List.replicate 8 (0:Int))=8 then (gL k (((rdT (t:=ai) x8 x10:aw).2).1)).bind fun (v1:cf) =>
  if (List.length r3+List.length ([(cpy (List.replicate 8 (0:Int)) ((rdT (t:=ai) x8 x10:aw).1),v1,())]))*120<=140737488355328 then bJ.l0 k m0 x8 x9 (wrap64 (x10+(1:Int))) (r3++([(cpy (List.replicate 8 (0:Int)) ((rdT (t:=ai) x8 x10:aw).1),v1,())])) else none else none else none
 else
  some r3:=by
 kernel_rfl
theorem cZ (k:Nat) (a0:aT) (a1:Int) (a2:Int) (a3:Int):bb (k+1) a0 a1 a2 a3 =
 (bif decide (a0.1<(0:Int)) then some true else some (decide (a0.1>(8:Int)))).bind fun (b1:Bool) =>
 (bif b1 then some true else some (decide ((List.length a0.2.1:Int)>a1))).bind fun (b2:Bool) =>
 bif b2 then
  some false
 else
  bb.l0 k k a2 a3 a0.2.1 (List.length a0.2.1:Int) (0:Int) a0:=by
 kernel_rfl
theorem bb.aV (k m0:Nat) (x2:Int) (x3:Int) (x27:List aw) (x28:Int) (x29:Int) (r4:aT):bb.l0 k (m0+1) x2 x3 x27 x28 x29 r4 =
 bif decide (x29<x28) then
  if 0<=x29/\x29<(List.length x27:Int) then (cw k (((rdT (t:=ai) x27 x29:aw).2).1) x3).bind fun (v3:Bool) =>
  bif !v3 then
   some false
  else
   bb.l0 k m0 x2 x3 x27 x28 (wrap64 (x29+(1:Int))) r4 else none
 else
  (aQ k r4).bind fun (v4:Bool) =>
  (bif v4 then (bJ k r4).bind fun (v5:List aw) =>
  (aR k v5).bind fun (v6:Int) =>
  some (decide (v6<=x2)) else some false).bind fun (b7:Bool) =>
  some b7:=by
 kernel_rfl
theorem qU (k:Nat) (a0:aT) (a1:Int):gM (k+1) a0 a1 =
 (bu k a0).bind fun (v1:Bool) =>
 bif !v1 then
  some (((0:Int),[],()),(3:Int),())
 else
  (bif decide (a1<(0:Int)) then some true else some (decide (a1>(40:Int)))).bind fun (b2:Bool) =>
  bif b2 then
   some (((0:Int),[],()),(1:Int),())
  else
   (bX k a0 a1).bind fun (v3:aT×Int×Unit) =>
   some (v3.1,v3.2.1,()):=by
 kernel_rfl
theorem fR (k:Nat) (a0:List aw):aR (k+1) a0 =
 aR.l0 k k (-1:Int) a0 (List.length a0:Int) (0:Int):=by
 kernel_rfl
theorem aR.aV (k m0:Nat) (x3:Int) (x6:List aw) (x7:Int) (x8:Int):aR.l0 k (m0+1) x3 x6 x7 x8 =
 bif decide (x8<x7) then
  if 0<=x8/\x8<(List.length x6:Int) then (bL k ((rdT (t:=af) x6 x8:aw).1)).bind fun (v1:Int) =>
  aR.l0 k m0 (mx x3 v1) x6 x7 (wrap64 (x8+(1:Int))) else none
 else
  some x3:=by
 kernel_rfl
theorem kO (k:Nat) (a0:cf) (a1:cf):e8 (k+1) a0 a1 =
 (ga k a0 a1).bind fun (v1:cf) =>
 (dO k v1).bind fun (v2:Int) =>
 some v2:=by
 kernel_rfl
theorem kM (k:Nat):eo (k+1) =
 some (false,[(1:Int)],[(1:Int)],()):=by
 kernel_rfl
theorem kJ (k:Nat) (a0:List aw) (a1:Int):bR (k+1) a0 a1 =
 (eo k ).bind fun (v1:cf) =>
 (eF k v1).bind fun (v2:List aw) =>
 bR.l0 k k a0 v2 a1 (0:Int):=by
 kernel_rfl
theorem bR.aV (k m0:Nat) (x0:List aw) (x5:List aw) (x8:Int) (x9:Int):bR.l0 k (m0+1) x0 x5 x8 x9 =
 bif decide (x9<x8) then
  (aZ k x5 x0).bind fun (v3:List aw) =>
  bR.l0 k m0 x0 v3 x8 (wrap64 (x9+(1:Int)))
 else
  some x5:=by
 kernel_rfl
theorem lZ (k:Nat) (a0:cf):gL (k+1) a0 =
 (bE k a0.2.1).bind fun (v1:List Int) =>
 (bE k a0.2.2.1).bind fun (v2:List Int) =>
 some (a0.1,v1,v2,()):=by
 kernel_rfl
theorem fi (k:Nat) (a0:cf) (a1:cf):eu (k+1) a0 a1 =
 (ax k a0.2.1 a1.2.2.1).bind fun (v1:List Int) =>
 (ax k a1.2.1 a0.2.2.1).bind fun (v2:List Int) =>
 (ax k a0.2.2.1 a1.2.2.1).bind fun (v3:List Int) =>
 bif a0.1==a1.1 then
  (az k v1 v2).bind fun (v4:List Int) =>
  (dh k a0.1 v4 v3).bind fun (v5:cf) =>
  some v5
 else
  (aG k v1 v2).bind fun (v6:Int) =>
  bif decide (v6>=(0:Int)) then
   (aJ k v1 v2).bind fun (v7:List Int) =>
   (dh k a0.1 v7 v3).bind fun (v8:cf) =>
   some v8
  else
   (aJ k v2 v1).bind fun (v9:List Int) =>
   (dh k a1.1 v9 v3).bind fun (v10:cf) =>
   some v10:=by
 kernel_rfl
theorem kN (k:Nat) (a0:cf) (a1:cf):gf (k+1) a0 a1 =
 (ax k a0.2.1 a1.2.1).bind fun (v1:List Int) =>
 (ax k a0.2.2.1 a1.2.2.1).bind fun (v2:List Int) =>
 (dh k (a0.1 != a1.1) v1 v2).bind fun (v3:cf) =>
 some v3:=by
 kernel_rfl
theorem jV (k:Nat) (a0:cf):eF (k+1) a0 =
 (bI k [] (List.replicate 8 (0:Int)) a0).bind fun (v1:List aw) =>
 some v1:=by
 kernel_rfl
theorem eW (k:Nat) (a0:aT) (a1:aT):aF (k+1) a0 a1 =
 (bif a0.1 != a1.1 then some true else some ((List.length a0.2.1:Int) != (List.length a1.2.1:Int))).bind fun (b1:Bool) =>
 bif b1 then
  some false
 else
  aF.l0 k k a0.2.1 (List.length a0.2.1:Int) (0:Int) a1:=by
 kernel_rfl
theorem aF.aV (k m0:Nat) (x24:List aw) (x25:Int) (x26:Int) (r3:aT):aF.l0 k (m0+1) x24 x25 x26 r3 =
 bif decide (x26<x25) then
  if 0<=x26/\x26<(List.length x24:Int) then if 0<=x26/\x26<(List.length r3.2.1:Int) then (bif (List.length ((rdT (t:=ai) x24 x26:aw).1):Int) != (List.length ((rdT (t:=ai) r3.2.1 x26:aw).1):Int) then some true else (dP k (((rdT (t:=ai) x24 x26:aw).2).1) (((rdT (t:=ai) r3.2.1 x26:aw).2).1)).bind fun (v2:Bool) =>
  some (!v2)).bind fun (b3:Bool) =>
  bif b3 then
   some false
  else
   aF.l1 k k m0 x24 x25 x26 (List.length ((rdT (t:=ai) x24 x26:aw).1):Int) (0:Int) r3 (rdT (t:=ai) x24 x26:aw) (rdT (t:=ai) r3.2.1 x26:aw) else none else none
 else
  some true:=by
 kernel_rfl
theorem aF.dN (k m1:Nat) (m0:Nat) (x24:List aw) (x25:Int) (x26:Int) (x53:Int) (x54:Int) (r3:aT) (r6:aw) (r7:aw):aF.l1 k (m1+1) m0 x24 x25 x26 x53 x54 r3 r6 r7 =
 bif decide (x54<x53) then
  if 0<=x54/\x54<(List.length r6.1:Int) then if 0<=x54/\x54<(List.length r7.1:Int) then bif (rdT (t:=(.int .i64)) r6.1 x54:Int) != (rdT (t:=(.int .i64)) r7.1 x54:Int) then
   some false
  else
   aF.l1 k m1 m0 x24 x25 x26 x53 (wrap64 (x54+(1:Int))) r3 r6 r7 else none else none
 else
  aF.l0 k m0 x24 x25 (wrap64 (x26+(1:Int))) r3:=by
 kernel_rfl
theorem lV (k:Nat) (a0:List aw) (a1:Int):aM (k+1) a0 a1 =
 if 0<=(List.length a0:Int)/\(List.length a0:Int)<=(List.length a0:Int)/\1*(Int.toNat (List.length a0:Int))<=281474976710656/\(Int.toNat (List.length a0:Int))<=maxLen then aM.l0 k k a0 a1 (List.length a0:Int) (0:Int) ((0:Int),[],()) a1 ([]:List aw) (List.replicate (Int.toNat (List.length a0:Int)) (false:Bool)) else none:=by
 kernel_rfl
theorem aM.aV (k m0:Nat) (x0:List aw) (x1:Int) (x16:Int) (x17:Int) (r4:aT) (q5_0:Int) (r11:List aw) (r14:List Bool):aM.l0 k (m0+1) x0 x1 x16 x17 r4 q5_0 r11 r14 =
 bif decide (x17<x16) then
  aM.l1 k k m0 x0 x1 (-1:Int) x16 x17 x0 (List.length x0:Int) (0:Int) r4 q5_0 r11 r14
 else
  some (q5_0,r11,()):=by
 kernel_rfl
theorem aM.dN (k m1:Nat) (m0:Nat) (x0:List aw) (x1:Int) (x7:Int) (x16:Int) (x17:Int) (x19:List aw) (x20:Int) (x21:Int) (r4:aT) (q5_0:Int) (r11:List aw) (r14:List Bool):aM.l1 k (m1+1) m0 x0 x1 x7 x16 x17 x19 x20 x21 r4 q5_0 r11 r14 =
 bif decide (x21<x20) then
  if 0<=x21/\x21<(List.length x19:Int) then if 0<=x21/\x21<(List.length r14:Int) then (bif !(rdT (t:=.bool) r14 x21:Bool) then (bif decide (x7<(0:Int)) then some true else if 0<=x7/\x7<(List.length x0:Int) then (bm k ((rdT (t:=af) x19 x21:aw).1) ((rdT (t:=af) x0 x7:aw).1)).bind fun (v1:Bool) =>
  some v1 else none).bind fun (b2:Bool) =>
  some b2 else some false).bind fun (b3:Bool) =>
  bif b3 then
   aM.j0 k m0 m1 x0 x1 x21 x16 x17 x19 x20 x21 r4 q5_0 r11 r14
  else
   aM.j0 k m0 m1 x0 x1 x7 x16 x17 x19 x20 x21 r4 q5_0 r11 r14 else none else none
 else
  if 0<=x7/\x7<(List.length r14:Int) then if 0<=x7/\x7<(List.length x0:Int) then if 0<=x1/\x1<=(8:Int) then if (List.length ([]:List Int)+List.length (List.take (Int.toNat x1) (fS (0:Int) 8 ((rdT (t:=af) x0 x7:aw).1))))*8<=140737488355328 then if 0<=x7/\x7<(List.length x0:Int) then (dK k (((rdT (t:=af) x0 x7:aw).2).1)).bind fun (v4:cf) =>
  if (List.length r11+List.length ([(([]:List Int)++(List.take (Int.toNat x1) (fS (0:Int) 8 ((rdT (t:=af) x0 x7:aw).1))),v4,())]))*80<=140737488355328 then aM.l0 k m0 x0 x1 x16 (wrap64 (x17+(1:Int))) r4 q5_0 (r11++([(([]:List Int)++(List.take (Int.toNat x1) (fS (0:Int) 8 ((rdT (t:=af) x0 x7:aw).1))),v4,())])) (List.set r14 (Int.toNat x7) true) else none else none else none else none else none else none:=by
 kernel_rfl
theorem dD (k:Nat) (a0:aT):aQ (k+1) a0 =
 (bif decide (a0.1<(0:Int)) then some true else some (decide (a0.1>(8:Int)))).bind fun (b1:Bool) =>
 (bif b1 then some true else some (decide ((List.length a0.2.1:Int)>(4000:Int)))).bind fun (b2:Bool) =>
 bif b2 then
  some false
 else
  aQ.l0 k k a0.2.1 (List.length a0.2.1:Int) (0:Int) a0 (List.replicate 8 (0:Int)):=by
 kernel_rfl
theorem aQ.aV (k m0:Nat) (x24:List aw) (x25:Int) (x26:Int) (r1:aT) (r3:List Int):aQ.l0 k (m0+1) x24 x25 x26 r1 r3 =
 bif decide (x26<x25) then
  if 0<=x26/\x26<(List.length x24:Int) then (bif (List.length ((rdT (t:=ai) x24 x26:aw).1):Int) != r1.1 then some true else (cw k (((rdT (t:=ai) x24 x26:aw).2).1) (200:Int)).bind fun (v3:Bool) =>
  some (!v3)).bind fun (b4:Bool) =>
  (bif b4 then some true else (eG k (((rdT (t:=ai) x24 x26:aw).2).1)).bind fun (v5:Bool) =>
  some (!v5)).bind fun (b6:Bool) =>
  (bif b6 then some true else some ((List.length (((((rdT (t:=ai) x24 x26:aw).2).1).2).1):Int)==(0:Int))).bind fun (b7:Bool) =>
  bif b7 then
   some false
  else
   aQ.l1 k k m0 x26 x24 x25 x26 ((rdT (t:=ai) x24 x26:aw).1) (List.length ((rdT (t:=ai) x24 x26:aw).1):Int) (0:Int) r1 r3 (List.replicate 8 (0:Int)) else none
 else
  some true:=by
 kernel_rfl
theorem aQ.dN (k m1:Nat) (m0:Nat) (x4:Int) (x24:List aw) (x25:Int) (x26:Int) (x57:List Int) (x58:Int) (x59:Int) (r1:aT) (r3:List Int) (r6:List Int):aQ.l1 k (m1+1) m0 x4 x24 x25 x26 x57 x58 x59 r1 r3 r6 =
 bif decide (x59<x58) then
  if 0<=x59/\x59<(List.length x57:Int) then (bif decide ((rdT (t:=(.int .i64)) x57 x59:Int)<(0:Int)) then some true else some (decide ((rdT (t:=(.int .i64)) x57 x59:Int)>(40:Int)))).bind fun (b8:Bool) =>
  bif b8 then
   some false
  else
   if 0<=x59/\x59<(8:Int) then aQ.l1 k m1 m0 x4 x24 x25 x26 x57 x58 (wrap64 (x59+(1:Int))) r1 r3 (stA (0:Int) 8 r6 x59 (rdT (t:=(.int .i64)) x57 x59:Int)) else none else none
 else
  (bL k r6).bind fun (v9:Int) =>
  (bif decide (v9>(40:Int)) then some true else (bif decide (x4>(0:Int)) then (bm k r3 r6).bind fun (v10:Bool) =>
  some (!v10) else some false).bind fun (b11:Bool) =>
  some b11).bind fun (b12:Bool) =>
  bif b12 then
   some false
  else
   aQ.l0 k m0 x24 x25 (wrap64 (x26+(1:Int))) r1 r6:=by
 kernel_rfl
theorem lY (k:Nat) (a0:cf):dK (k+1) a0 =
 (aB k a0.2.1).bind fun (v1:List Int) =>
 (aB k a0.2.2.1).bind fun (v2:List Int) =>
 some (a0.1,v1,v2,()):=by
 kernel_rfl
theorem mI (k:Nat) (a0:cf) (a1:Int):lK (k+1) a0 a1 =
 (bif decide ((List.length a0.2.1:Int)<=a1) then some (decide ((List.length a0.2.2.1:Int)<=a1)) else some false).bind fun (b1:Bool) =>
 some b1:=by
 kernel_rfl
theorem jQ (k:Nat) (a0:cf):jk (k+1) a0 =
 bif (List.length a0.2.1:Int)==(0:Int) then
  some (0:Int)
 else
  bif a0.1 then
   some (-1:Int)
  else
   some (1:Int):=by
 kernel_rfl
theorem BQ (k:Nat) (a0:List Int) (a1:List Int):eV (k+1) a0 a1 =
 eV.l0 k k a1 a0 (List.length a0:Int) (0:Int):=by
 kernel_rfl
theorem eV.aV (k m0:Nat) (x1:List Int) (x7:List Int) (x8:Int) (x9:Int):eV.l0 k (m0+1) x1 x7 x8 x9 =
 bif decide (x9<x8) then
  if 0<=x9/\x9<(List.length x7:Int) then if 0<=x9/\x9<(List.length x1:Int) then bif (rdT (t:=(.int .i64)) x7 x9:Int) != (rdT (t:=(.int .i64)) x1 x9:Int) then
   if 0<=x9/\x9<(List.length x1:Int) then bif decide ((rdT (t:=(.int .i64)) x7 x9:Int)<(rdT (t:=(.int .i64)) x1 x9:Int)) then
    some (-1:Int)
   else
    some (1:Int) else none
  else
   eV.l0 k m0 x1 x7 x8 (wrap64 (x9+(1:Int))) else none else none
 else
  some (0:Int):=by
 kernel_rfl
theorem jj (k:Nat) (a0:cf) (a1:Int):ef (k+1) a0 a1 =
 (iQ k a0.2.1 a1).bind fun (v1:Bool) =>
 (bif !v1 then some true else (iQ k a0.2.2.1 a1).bind fun (v2:Bool) =>
 some (!v2)).bind fun (b3:Bool) =>
 (bif b3 then some true else some ((List.length a0.2.2.1:Int)==(0:Int))).bind fun (b4:Bool) =>
 bif b4 then
  some false
 else
  bif (List.length a0.2.1:Int)==(0:Int) then
   (bif !a0.1 then some ((List.length a0.2.2.1:Int)==(1:Int)) else some false).bind fun (b5:Bool) =>
   (bif b5 then if 0<=(0:Int)/\(0:Int)<(List.length a0.2.2.1:Int) then some ((rdT (t:=(.int .u32)) a0.2.2.1 (0:Int):Int)==(1:Int)) else none else some false).bind fun (b6:Bool) =>
   some b6
  else
   (bif (List.length a0.2.2.1:Int)==(1:Int) then if 0<=(0:Int)/\(0:Int)<(List.length a0.2.2.1:Int) then some ((rdT (t:=(.int .u32)) a0.2.2.1 (0:Int):Int)==(1:Int)) else none else some false).bind fun (b7:Bool) =>
   bif b7 then
    some true
   else
    (bU k a0.2.1 a0.2.2.1).bind fun (v8:List Int) =>
    (bif (List.length v8:Int)==(1:Int) then if 0<=(0:Int)/\(0:Int)<(List.length v8:Int) then some ((rdT (t:=(.int .u32)) v8 (0:Int):Int)==(1:Int)) else none else some false).bind fun (b9:Bool) =>
    some b9:=by
 kernel_rfl
theorem eH (k:Nat) (a0:aT) (a1:aT):dm (k+1) a0 a1 =
 (bif decide ((List.length a0.2.1:Int)>(0:Int)) then some (decide ((List.length a1.2.1:Int)>(0:Int))) else some false).bind fun (b1:Bool) =>
 (bif b1 then (cL k a0).bind fun (v2:Int) =>
 (cL k a1).bind fun (v3:Int) =>
 some (decide ((wrap64 (v2+v3))>(40:Int))) else some false).bind fun (b4:Bool) =>
 bif b4 then
  some (((0:Int),[],()),(2:Int),())
 else
  (eU k a0 a1).bind fun (v5:aT) =>
  (dY k v5).bind fun (v6:aT×Int×Unit) =>
  some (v6.1,v6.2.1,()):=by
 kernel_rfl
theorem jU (k:Nat) (a0:List aw) (a1:aw):aU (k+1) a0 a1 =
 aU.l0 k k a0 (List.length a0:Int) (0:Int) a1 ([]:List aw):=by
 kernel_rfl
theorem aU.aV (k m0:Nat) (x10:List aw) (x11:Int) (x12:Int) (r3:aw) (r5:List aw):aU.l0 k (m0+1) x10 x11 x12 r3 r5 =
 bif decide (x12<x11) then
  if 0<=x12/\x12<(List.length x10:Int) then aU.l1 k k m0 x10 x11 x12 (0:Int) r3 r5 (rdT (t:=af) x10 x12:aw) ((rdT (t:=af) x10 x12:aw).1) else none
 else
  some r5:=by
 kernel_rfl
theorem aU.dN (k m1:Nat) (m0:Nat) (x10:List aw) (x11:Int) (x12:Int) (x18:Int) (r3:aw) (r5:List aw) (r7:aw) (r8:List Int):aU.l1 k (m1+1) m0 x10 x11 x12 x18 r3 r5 r7 r8 =
 bif decide (x18<(8:Int)) then
  if 0<=x18/\x18<(8:Int) then if 0<=x18/\x18<(8:Int) then if 0<=x18/\x18<(8:Int) then aU.l1 k m1 m0 x10 x11 x12 (wrap64 (x18+(1:Int))) r3 r5 r7 (stA (0:Int) 8 r8 x18 (wrap64 ((rdA (0:Int) 8 r8 x18:Int)+(rdA (0:Int) 8 r3.1 x18:Int)))) else none else none else none
 else
  (gf k r7.2.1 r3.2.1).bind fun (v1:cf) =>
  if (List.length r5+List.length ([(r8,v1,())]))*120<=140737488355328 then aU.l0 k m0 x10 x11 (wrap64 (x12+(1:Int))) r3 (r5++([(r8,v1,())])) else none:=by
 kernel_rfl
theorem gY (k:Nat) (a0:List aw) (a1:List Int) (a2:cf):bI (k+1) a0 a1 a2 =
 (dO k a2).bind fun (v1:Int) =>
 bif v1==(0:Int) then
  some a0
 else
  bI.l0 k k (List.length a0:Int) (0:Int) a0 a1 a2:=by
 kernel_rfl
theorem bI.aV (k m0:Nat) (x14:Int) (x15:Int) (rl:List aw) (r4:List Int) (r5:cf):bI.l0 k (m0+1) x14 x15 rl r4 r5 =
 bif decide (x15<x14) then
  if 0<=x15/\x15<(List.length rl:Int) then bif fS (0:Int) 8 ((rdT (t:=af) rl x15:aw).1)==fS (0:Int) 8 r4 then
   if 0<=x15/\x15<(List.length rl:Int) then (eu k (((rdT (t:=af) rl x15:aw).2).1) r5).bind fun (v2:cf) =>
   (dO k v2).bind fun (v3:Int) =>
   bif v3==(0:Int) then
    if 0<=(wrap64 ((List.length rl:Int)-(1:Int)))/\(wrap64 ((List.length rl:Int)-(1:Int)))<(List.length rl:Int) then if 0<=x15/\x15<(List.length rl:Int) then if 0<List.length (List.set rl (Int.toNat x15) (rdT (t:=af) rl (wrap64 ((List.length rl:Int)-(1:Int))):aw))/\0<=(wrap64 ((List.length (List.set rl (Int.toNat x15) (rdT (t:=af) rl (wrap64 ((List.length rl:Int)-(1:Int))):aw)):Int)-(1:Int)))/\(wrap64 ((List.length (List.set rl (Int.toNat x15) (rdT (t:=af) rl (wrap64 ((List.length rl:Int)-(1:Int))):aw)):Int)-(1:Int)))<=(List.length (List.set rl (Int.toNat x15) (rdT (t:=af) rl (wrap64 ((List.length rl:Int)-(1:Int))):aw)):Int) then some (List.take (Int.toNat (wrap64 ((List.length (List.set rl (Int.toNat x15) (rdT (t:=af) rl (wrap64 ((List.length rl:Int)-(1:Int))):aw)):Int)-(1:Int)))) (List.set rl (Int.toNat x15) (rdT (t:=af) rl (wrap64 ((List.length rl:Int)-(1:Int))):aw))) else none else none else none
   else
    if 0<=x15/\x15<(List.length rl:Int) then some (List.set rl (Int.toNat x15) ((rdT (t:=af) rl x15:aw).1,v2,((rdT (t:=af) rl x15:aw).2).2)) else none else none
  else
   bI.l0 k m0 x14 (wrap64 (x15+(1:Int))) rl r4 r5 else none
 else
  if (List.length rl+List.length ([(r4,r5,())]))*120<=140737488355328 then some (rl++([(r4,r5,())])) else none:=by
 kernel_rfl
theorem jW (k:Nat) (a0:cf) (a1:Int):cw (k+1) a0 a1 =
 (bif decide ((List.length a0.2.1:Int)<=a1) then some (decide ((List.length a0.2.2.1:Int)<=a1)) else some false).bind fun (b1:Bool) =>
 some b1:=by
 kernel_rfl
theorem jO (k:Nat) (a0:aT) (a1:Int):bX (k+1) a0 a1 =
 (yu k ).bind fun (v1:cf) =>
 (nB k a0.1 v1).bind fun (v2:aT) =>
 bX.l0 k k a1 (0:Int) a0 ((0:Int),[],()) v2:=by
 kernel_rfl
theorem bX.aV (k m0:Nat) (x1:Int) (x7:Int) (r2:aT) (r4:aT) (r6:aT):bX.l0 k (m0+1) x1 x7 r2 r4 r6 =
 (bif decide (x1>(0:Int)) then some (x7==(0:Int)) else some false).bind fun (b3:Bool) =>
 bif b3 then
  (dm k r6 r2).bind fun (v4:aT×Int×Unit) =>
  bX.l0 k m0 (wrap64 (x1-(1:Int))) v4.2.1 r2 r4 v4.1
 else
  some (r6,x7,()):=by
 kernel_rfl
theorem jT (k:Nat) (a0:List Int):bL (k+1) a0 =
 bL.l0 k k (0:Int) a0 (0:Int):=by
 kernel_rfl
theorem bL.aV (k m0:Nat) (x3:Int) (x6:List Int) (x7:Int):bL.l0 k (m0+1) x3 x6 x7 =
 bif decide (x7<(8:Int)) then
  if 0<=x7/\x7<(8:Int) then bL.l0 k m0 (wrap64 (x3+(rdA (0:Int) 8 x6 x7:Int))) x6 (wrap64 (x7+(1:Int))) else none
 else
  some x3:=by
 kernel_rfl
theorem kq (k:Nat) (a0:cf):dO (k+1) a0 =
 bif (List.length a0.2.1:Int)==(0:Int) then
  some (0:Int)
 else
  bif a0.1 then
   some (-1:Int)
  else
   some (1:Int):=by
 kernel_rfl
theorem kL (k:Nat) (a0:cf) (a1:cf):ga (k+1) a0 a1 =
 (gb k a1).bind fun (v1:cf) =>
 (eu k a0 v1).bind fun (v2:cf) =>
 some v2:=by
 kernel_rfl
theorem dE (k:Nat) (a0:cf):eG (k+1) a0 =
 (bD k a0.2.1).bind fun (v1:Bool) =>
 (bif !v1 then some true else (bD k a0.2.2.1).bind fun (v2:Bool) =>
 some (!v2)).bind fun (b3:Bool) =>
 (bif b3 then some true else some ((List.length a0.2.2.1:Int)==(0:Int))).bind fun (b4:Bool) =>
 bif b4 then
  some false
 else
  bif (List.length a0.2.1:Int)==(0:Int) then
   (bif !a0.1 then some ((List.length a0.2.2.1:Int)==(1:Int)) else some false).bind fun (b5:Bool) =>
   (bif b5 then if 0<=(0:Int)/\(0:Int)<(List.length a0.2.2.1:Int) then some ((rdT (t:=(.int .u32)) a0.2.2.1 (0:Int):Int)==(1:Int)) else none else some false).bind fun (b6:Bool) =>
   some b6
  else
   (bE k a0.2.1).bind fun (v7:List Int) =>
   (bE k a0.2.2.1).bind fun (v8:List Int) =>
   (ay k v7 v8).bind fun (v9:List Int) =>
   (aG k v9 ([(1:Int)])).bind fun (v10:Int) =>
   some (v10==(0:Int)):=by
 kernel_rfl
theorem l5 (k:Nat) (a0:List Int):bE (k+1) a0 =
 bE.l0 k k a0 [] (wrap64 ((List.length a0:Int)-(1:Int))):=by
 kernel_rfl
theorem bE.aV (k m0:Nat) (x0:List Int) (x3:List Int) (x4:Int):bE.l0 k (m0+1) x0 x3 x4 =
 bif decide (x4>=(0:Int)) then
  if 0<=x4/\x4<(List.length x0:Int) then (au k x3 (65536:Int) (wrap64 (shr .u32 (rdT (t:=(.int .u32)) x0 x4:Int) (16:Int)))).bind fun (v1:List Int) =>
  if 0<=x4/\x4<(List.length x0:Int) then (au k v1 (65536:Int) (wrap64 (Go.bits .and .u32 (rdT (t:=(.int .u32)) x0 x4:Int) (65535:Int)))).bind fun (v2:List Int) =>
  bE.l0 k m0 x0 v2 (wrap64 (x4-(1:Int))) else none else none
 else
  some x3:=by
 kernel_rfl
theorem iI (k:Nat) (a0:aT):dY (k+1) a0 =
 (bu k a0).bind fun (v1:Bool) =>
 bif !v1 then
  some (((0:Int),[],()),(2:Int),())
 else
  (fY k a0).bind fun (v2:aT) =>
  some (v2,(0:Int),()):=by
 kernel_rfl
theorem kr (k:Nat) (a0:cf) (a1:cf):dP (k+1) a0 a1 =
 (bif a0.1==a1.1 then (aA k a0.2.1 a1.2.1).bind fun (v1:Bool) =>
 some v1 else some false).bind fun (b2:Bool) =>
 (bif b2 then (aA k a0.2.2.1 a1.2.2.1).bind fun (v3:Bool) =>
 some v3 else some false).bind fun (b4:Bool) =>
 some b4:=by
 kernel_rfl
theorem kp (k:Nat):fI (k+1) =
 some (false,[],[(1:Int)],()):=by
 kernel_rfl
theorem kQ (k:Nat) (a0:List Int) (a1:List Int):ax (k+1) a0 a1=P.ax.f k a0 a1:=by
 kernel_rfl
theorem dS (k:Nat) (a0:Bool) (a1:List Int) (a2:List Int):dh (k+1) a0 a1 a2 =
 bif (List.length a1:Int)==(0:Int) then
  (fI k ).bind fun (v1:cf) =>
  some v1
 else
  (bif (List.length a2:Int)==(1:Int) then if 0<=(0:Int)/\(0:Int)<(List.length a2:Int) then some ((rdT (t:=(.int .i64)) a2 (0:Int):Int)==(1:Int)) else none else some false).bind fun (b2:Bool) =>
  bif b2 then
   some (a0,a1,a2,())
  else
   (ay k a1 a2).bind fun (v3:List Int) =>
   (bif (List.length v3:Int)==(1:Int) then if 0<=(0:Int)/\(0:Int)<(List.length v3:Int) then some ((rdT (t:=(.int .i64)) v3 (0:Int):Int)==(1:Int)) else none else some false).bind fun (b4:Bool) =>
   bif b4 then
    some (a0,a1,a2,())
   else
    (aC k a1 v3).bind fun (v5:List Int×List Int×Unit) =>
    (aC k a2 v3).bind fun (v6:List Int×List Int×Unit) =>
    some (a0,v5.1,v6.1,()):=by
 kernel_rfl
theorem kV (k:Nat) (a0:List Int) (a1:List Int):az (k+1) a0 a1=P.az.f k a0 a1:=by
 kernel_rfl
theorem kU (k:Nat) (a0:List Int) (a1:List Int):aG (k+1) a0 a1=P.aG.f k a0 a1:=by
 kernel_rfl
theorem kP (k:Nat) (a0:List Int) (a1:List Int):aJ (k+1) a0 a1=P.aJ.f k a0 a1:=by
 kernel_rfl
theorem uC (k:Nat) (a0:aT):cL (k+1) a0 =
 cL.l0 k k (-1:Int) a0.2.1 (List.length a0.2.1:Int) (0:Int):=by
 kernel_rfl
theorem cL.aV (k m0:Nat) (x3:Int) (x7:List aw) (x8:Int) (x9:Int):cL.l0 k (m0+1) x3 x7 x8 x9 =
 bif decide (x9<x8) then
  if 0<=x9/\x9<(List.length x7:Int) then (fy k ((rdT (t:=ai) x7 x9:aw).1)).bind fun (v1:Int) =>
  cL.l0 k m0 (mx x3 v1) x7 x8 (wrap64 (x9+(1:Int))) else none
 else
  some x3:=by
 kernel_rfl
theorem pn (k:Nat) (a0:Int) (a1:cf):nB (k+1) a0 a1 =
 (jk k a1).bind fun (v1:Int) =>
 bif v1==(0:Int) then
  (zO k a0).bind fun (v2:aT) =>
  some v2
 else
  if 0<=a0/\a0<=a0/\8*(Int.toNat a0)<=281474976710656/\(Int.toNat a0)<=maxLen then (qh k a1).bind fun (v3:cf) =>
  some (a0,[(List.replicate (Int.toNat a0) ((0:Int):Int),v3,())],()) else none:=by
 kernel_rfl
theorem yg (k:Nat) (a0:Int):zO (k+1) a0 =
 some (a0,[],()):=by
 kernel_rfl
theorem BX (k:Nat):yu (k+1) =
 (D8 k (1:Int)).bind fun (v1:cf) =>
 some v1:=by
 kernel_rfl
theorem jC (k:Nat) (a0:List Int) (a1:List Int):bm (k+1) a0 a1 =
 bm.l0 k k (0:Int) a0 a1:=by
 kernel_rfl
theorem bm.aV (k m0:Nat) (x6:Int) (r2:List Int) (r3:List Int):bm.l0 k (m0+1) x6 r2 r3 =
 bif decide (x6<(8:Int)) then
  if 0<=x6/\x6<(8:Int) then if 0<=x6/\x6<(8:Int) then bif (rdA (0:Int) 8 r2 x6:Int) != (rdA (0:Int) 8 r3 x6:Int) then
   if 0<=x6/\x6<(8:Int) then if 0<=x6/\x6<(8:Int) then some (decide ((rdA (0:Int) 8 r2 x6:Int)>(rdA (0:Int) 8 r3 x6:Int))) else none else none
  else
   bm.l0 k m0 (wrap64 (x6+(1:Int))) r2 r3 else none else none
 else
  some false:=by
 kernel_rfl
theorem jX (k:Nat) (a0:List Int):aB (k+1) a0=P.aB.f k a0:=by
 kernel_rfl
theorem kG (k:Nat) (a0:List Int) (a1:Int):iQ (k+1) a0 a1 =
 (bif decide ((List.length a0:Int)<=a1) then (bif (List.length a0:Int)==(0:Int) then some true else if 0<=(wrap64 ((List.length a0:Int)-(1:Int)))/\(wrap64 ((List.length a0:Int)-(1:Int)))<(List.length a0:Int) then some ((rdT (t:=(.int .u32)) a0 (wrap64 ((List.length a0:Int)-(1:Int))):Int) != (0:Int)) else none).bind fun (b1:Bool) =>
 some b1 else some false).bind fun (b2:Bool) =>
 some b2:=by
 kernel_rfl
theorem Ch (k:Nat) (a0:List Int) (a1:List Int):bU (k+1) a0 a1=P.bU.f k a0 a1:=by
 kernel_rfl
theorem BO (k:Nat) (a0:aT) (a1:aT):eU (k+1) a0 a1 =
 eU.l0 k k a0.2.1 (List.length a0.2.1:Int) (0:Int) a0 a1 ((0:Int),[],()) ([]:List aw):=by
 kernel_rfl
theorem eU.aV (k m0:Nat) (x9:List aw) (x10:Int) (x11:Int) (r2:aT) (r3:aT) (r4:aT) (r5:List aw):eU.l0 k (m0+1) x9 x10 x11 r2 r3 r4 r5 =
 bif decide (x11<x10) then
  if 0<=x11/\x11<(List.length x9:Int) then (cm k r3 (rdT (t:=ai) x9 x11:aw)).bind fun (v1:aT) =>
  if (List.length r5+List.length v1.2.1)*80<=140737488355328 then bif decide ((List.length (r5++v1.2.1):Int)>(65536:Int)) then
   (ba k r2.1 (r5++v1.2.1)).bind fun (v2:aT) =>
   none
  else
   eU.j0 k m0 x9 x10 x11 r2 r3 r4 (r5++v1.2.1) else none else none
 else
  (ba k r2.1 r5).bind fun (v3:aT) =>
  some v3:=by
 kernel_rfl
theorem gZ (k:Nat) (a0:cf):gb (k+1) a0 =
 bif (List.length a0.2.1:Int)==(0:Int) then
  some a0
 else
  some (!a0.1,a0.2.1,a0.2.2.1,()):=by
 kernel_rfl
theorem jY (k:Nat) (a0:List Int):bD (k+1) a0=P.bD.f a0:=by
 kernel_rfl
theorem kS (k:Nat) (a0:List Int) (a1:List Int):ay (k+1) a0 a1=P.ay.f k a0 a1:=by
 kernel_rfl
theorem jZ (k:Nat) (a0:List Int) (a1:Int) (a2:Int):au (k+1) a0 a1 a2=P.au.f k a0 a1 a2:=by
 kernel_rfl
theorem tG (k:Nat) (a0:cf) (a1:cf):ik (k+1) a0 a1 =
 (cY k a0.2.2.1 a1.2.2.1).bind fun (v1:Int) =>
 bif v1 != (0:Int) then
  (bG k a0.2.1 a1.2.2.1).bind fun (v2:List Int) =>
  (bG k a1.2.1 a0.2.2.1).bind fun (v3:List Int) =>
  (bG k a0.2.2.1 a1.2.2.1).bind fun (v4:List Int) =>
  ik.j0 k v2 v3 v4 a0 a1 (false,[],[],())
 else
  ik.j0 k a0.2.1 a1.2.1 a0.2.2.1 a0 a1 (false,[],[],()):=by
 kernel_rfl
theorem yr (k:Nat):nK (k+1) =
 some (false,[],[(1:Int)],()):=by
 kernel_rfl
theorem B0 (k:Nat) (a0:cf) (a1:cf):ru (k+1) a0 a1 =
 (bG k a0.2.1 a1.2.1).bind fun (v1:List Int) =>
 (bG k a0.2.2.1 a1.2.2.1).bind fun (v2:List Int) =>
 (di k (a0.1 != a1.1) v1 v2).bind fun (v3:cf) =>
 some v3:=by
 kernel_rfl
theorem yh (k:Nat) (a0:aT):fY (k+1) a0 =
 fY.l0 k k a0.2.1 (List.length a0.2.1:Int) (0:Int) a0 ((0:Int),[],()) a0.1 ([]:List aw):=by
 kernel_rfl
theorem fY.aV (k m0:Nat) (x10:List aw) (x11:Int) (x12:Int) (r1:aT) (r2:aT) (q3_0:Int) (r8:List aw):fY.l0 k (m0+1) x10 x11 x12 r1 r2 q3_0 r8 =
 bif decide (x12<x11) then
  if 0<=x12/\x12<(List.length x10:Int) then if 0<=(0:Int)/\(0:Int)<=r1.1/\8*(Int.toNat r1.1)<=281474976710656/\(Int.toNat r1.1)<=maxLen then if (List.length (List.replicate (Int.toNat (0:Int)) ((0:Int):Int))+List.length ((rdT (t:=ai) x10 x12:aw).1))*8<=140737488355328 then (qh k (((rdT (t:=ai) x10 x12:aw).2).1)).bind fun (v1:cf) =>
  if (List.length r8+List.length ([((List.replicate (Int.toNat (0:Int)) ((0:Int):Int))++((rdT (t:=ai) x10 x12:aw).1),v1,())]))*80<=140737488355328 then fY.l0 k m0 x10 x11 (wrap64 (x12+(1:Int))) r1 r2 q3_0 (r8++([((List.replicate (Int.toNat (0:Int)) ((0:Int):Int))++((rdT (t:=ai) x10 x12:aw).1),v1,())])) else none else none else none else none
 else
  some (q3_0,r8,()):=by
 kernel_rfl
theorem ic (k:Nat) (a0:List Int) (a1:List Int):aA (k+1) a0 a1=P.aA.f k a0 a1:=by
 kernel_rfl
theorem jD (k:Nat) (a0:List Int) (a1:List Int):aC (k+1) a0 a1=(P.aC.f k a0 a1).map fun r=>(r.1,r.2,()):=by
 kernel_rfl
theorem BK (k:Nat) (a0:List Int):fy (k+1) a0 =
 fy.l0 k k (0:Int) a0 (List.length a0:Int) (0:Int):=by
 kernel_rfl
theorem fy.aV (k m0:Nat) (x3:Int) (x6:List Int) (x7:Int) (x8:Int):fy.l0 k (m0+1) x3 x6 x7 x8 =
 bif decide (x8<x7) then
  if 0<=x8/\x8<(List.length x6:Int) then fy.l0 k m0 (wrap64 (x3+(rdT (t:=(.int .i64)) x6 x8:Int))) x6 x7 (wrap64 (x8+(1:Int))) else none
 else
  some x3:=by
 kernel_rfl
theorem yw (k:Nat) (a0:cf):qh (k+1) a0 =
 if List.length a0.2.1*4<=140737488355328 then if List.length a0.2.2.1*4<=140737488355328 then some (a0.1,a0.2.1,a0.2.2.1,()) else none else none:=by
 kernel_rfl
theorem B5 (k:Nat) (a0:Int):D8 (k+1) a0 =
 bif decide (a0<(0:Int)) then
  (cK k (IntKind.u64.wrap ((IntKind.u64.wrap (wrap64 (-(wrap64 (a0+(1:Int))))))+(1:Int)))).bind fun (v1:List Int) =>
  (di k true v1 ([(1:Int)])).bind fun (v2:cf) =>
  some v2
 else
  (cK k (IntKind.u64.wrap (a0))).bind fun (v3:List Int) =>
  (di k false v3 ([(1:Int)])).bind fun (v4:cf) =>
  some v4:=by
 kernel_rfl
theorem wk (k:Nat) (a0:aT) (a1:aw):cm (k+1) a0 a1 =
 cm.l0 k k a0.2.1 (List.length a0.2.1:Int) (0:Int) a0 a1 ((0:Int),[],()) a0.1 ([]:List aw):=by
 kernel_rfl
theorem cm.aV (k m0:Nat) (x14:List aw) (x15:Int) (x16:Int) (r2:aT) (r3:aw) (r4:aT) (q5_0:Int) (r12:List aw):cm.l0 k (m0+1) x14 x15 x16 r2 r3 r4 q5_0 r12 =
 bif decide (x16<x15) then
  if 0<=x16/\x16<(List.length x14:Int) then if 0<=r2.1/\r2.1<=r2.1/\8*(Int.toNat r2.1)<=281474976710656/\(Int.toNat r2.1)<=maxLen then cm.l1 k k m0 x14 x15 x16 (List.length (List.replicate (Int.toNat r2.1) ((0:Int):Int)):Int) (0:Int) r2 r3 r4 q5_0 r12 (rdT (t:=ai) x14 x16:aw) (List.replicate (Int.toNat r2.1) ((0:Int):Int)) else none else none
 else
  some (q5_0,r12,()):=by
 kernel_rfl
theorem cm.dN (k m1:Nat) (m0:Nat) (x14:List aw) (x15:Int) (x16:Int) (x24:Int) (x25:Int) (r2:aT) (r3:aw) (r4:aT) (q5_0:Int) (r12:List aw) (r7:aw) (r22:List Int):cm.l1 k (m1+1) m0 x14 x15 x16 x24 x25 r2 r3 r4 q5_0 r12 r7 r22 =
 bif decide (x25<x24) then
  if 0<=x25/\x25<(List.length r7.1:Int) then if 0<=x25/\x25<(List.length r3.1:Int) then if 0<=x25/\x25<(List.length r22:Int) then cm.l1 k m1 m0 x14 x15 x16 x24 (wrap64 (x25+(1:Int))) r2 r3 r4 q5_0 r12 r7 (List.set r22 (Int.toNat x25) (wrap64 ((rdT (t:=(.int .i64)) r7.1 x25:Int)+(rdT (t:=(.int .i64)) r3.1 x25:Int)))) else none else none else none
 else
  (ru k r7.2.1 r3.2.1).bind fun (v1:cf) =>
  if (List.length r12+List.length ([(r22,v1,())]))*80<=140737488355328 then cm.l0 k m0 x14 x15 (wrap64 (x16+(1:Int))) r2 r3 r4 q5_0 (r12++([(r22,v1,())])) else none:=by
 kernel_rfl
theorem sQ (k:Nat) (a0:Int) (a1:List aw):ba (k+1) a0 a1 =
 ba.l0 k k a0 [] a1 (List.length a1:Int) (0:Int) ((0:Int),[],()) ([]:List aw):=by
 kernel_rfl
theorem ba.aV (k m0:Nat) (x0:Int) (x5:List (ByteArray×Int)) (x16:List aw) (x17:Int) (x18:Int) (r4:aT) (r6:List aw):ba.l0 k (m0+1) x0 x5 x16 x17 x18 r4 r6 =
 bif decide (x18<x17) then
  if 0<=x18/\x18<(List.length x16:Int) then (gJ k ((rdT (t:=ai) x16 x18:aw).1)).bind fun (v1:ByteArray) =>
  bif !(((wE x5 v1).2).1) then
   if (List.length r6+List.length ([(rdT (t:=ai) x16 x18:aw)]))*80<=140737488355328 then ba.j0 k m0 x0 (V.qi x5 v1 (List.length r6:Int)) x16 x17 x18 r4 (r6++([(rdT (t:=ai) x16 x18:aw)])) else none
  else
   if 0<=((wE x5 v1).1)/\((wE x5 v1).1)<(List.length r6:Int) then (ik k (((rdT (t:=ai) r6 ((wE x5 v1).1):aw).2).1) (((rdT (t:=ai) x16 x18:aw).2).1)).bind fun (v2:cf) =>
   if 0<=((wE x5 v1).1)/\((wE x5 v1).1)<(List.length r6:Int) then ba.j0 k m0 x0 x5 x16 x17 x18 r4 (List.set r6 (Int.toNat ((wE x5 v1).1)) ((rdT (t:=ai) r6 ((wE x5 v1).1):aw).1,v2,((rdT (t:=ai) r6 ((wE x5 v1).1):aw).2).2)) else none else none else none
 else
  ba.l1 k k r6 (List.length r6:Int) (0:Int) r4 x0 ([]:List aw):=by
 kernel_rfl
theorem ba.dN (k m0:Nat) (x56:List aw) (x57:Int) (x58:Int) (r4:aT) (q12_0:Int) (r55:List aw):ba.l1 k (m0+1) x56 x57 x58 r4 q12_0 r55 =
 bif decide (x58<x57) then
  if 0<=x58/\x58<(List.length x56:Int) then (jk k (((rdT (t:=ai) x56 x58:aw).2).1)).bind fun (v3:Int) =>
  bif v3 != (0:Int) then
   if (List.length r55+List.length ([(rdT (t:=ai) x56 x58:aw)]))*80<=140737488355328 then ba.j1 k m0 x56 x57 x58 r4 q12_0 (r55++([(rdT (t:=ai) x56 x58:aw)])) else none
  else
   ba.j1 k m0 x56 x57 x58 r4 q12_0 r55 else none
 else
  (Db r55).bind fun (v4:List aw) =>
  some (q12_0,v4,()):=by
 kernel_rfl
theorem Cj (k:Nat) (a0:List Int) (a1:List Int):cY (k+1) a0 a1=P.cY.f k a0 a1:=by
 kernel_rfl
theorem Cf (k:Nat) (a0:List Int) (a1:List Int):bG (k+1) a0 a1=P.bG.f k a0 a1:=by
 kernel_rfl
theorem mH (k:Nat) (a0:Bool) (a1:List Int) (a2:List Int):di (k+1) a0 a1 a2 =
 bif (List.length a1:Int)==(0:Int) then
  (nK k ).bind fun (v1:cf) =>
  some v1
 else
  (bU k a1 a2).bind fun (v2:List Int) =>
  (bif (List.length v2:Int) != (1:Int) then some true else if 0<=(0:Int)/\(0:Int)<(List.length v2:Int) then some ((rdT (t:=(.int .u32)) v2 (0:Int):Int) != (1:Int)) else none).bind fun (b3:Bool) =>
  bif b3 then
   (aI k a1 v2).bind fun (v4:List Int×List Int×Unit) =>
   (aI k a2 v2).bind fun (v5:List Int×List Int×Unit) =>
   di.j0 k a0 v4.1 v5.1 (false,[],[],())
  else
   di.j0 k a0 a1 a2 (false,[],[],()):=by
 kernel_rfl
theorem Cn (k:Nat) (a0:List Int) (a1:List Int):cM (k+1) a0 a1=P.cM.f k a0 a1:=by
 kernel_rfl
theorem Cb (k:Nat) (a0:List Int) (a1:List Int):cW (k+1) a0 a1=P.cW.f k a0 a1:=by
 kernel_rfl
theorem yG (k:Nat) (a0:Int):cK (k+1) a0=P.cK.f k a0:=by
 kernel_rfl
theorem BM (k:Nat) (a0:List Int):gJ (k+1) a0 =
 if 0<=(0:Int)/\(0:Int)<=(wrap64 ((4:Int)*(List.length a0:Int)))/\1*(Int.toNat (wrap64 ((4:Int)*(List.length a0:Int))))<=281474976710656/\(Int.toNat (wrap64 ((4:Int)*(List.length a0:Int))))<=maxLen then gJ.l0 k k a0 (List.length a0:Int) (0:Int) (List.replicate (Int.toNat (0:Int)) ((0:Int):Int)) else none:=by
 kernel_rfl
theorem gJ.aV (k m0:Nat) (x10:List Int) (x11:Int) (x12:Int) (r9:List Int):gJ.l0 k (m0+1) x10 x11 x12 r9 =
 bif decide (x12<x11) then
  if 0<=x12/\x12<(List.length x10:Int) then if (List.length r9+List.length ([(shr .i64 (rdT (t:=(.int .i64)) x10 x12:Int) (24:Int)) % 256,(shr .i64 (rdT (t:=(.int .i64)) x10 x12:Int) (16:Int)) % 256,(shr .i64 (rdT (t:=(.int .i64)) x10 x12:Int) (8:Int)) % 256,((rdT (t:=(.int .i64)) x10 x12:Int)) % 256]))*1<=140737488355328 then gJ.l0 k m0 x10 x11 (wrap64 (x12+(1:Int))) (r9++([(shr .i64 (rdT (t:=(.int .i64)) x10 x12:Int) (24:Int)) % 256,(shr .i64 (rdT (t:=(.int .i64)) x10 x12:Int) (16:Int)) % 256,(shr .i64 (rdT (t:=(.int .i64)) x10 x12:Int) (8:Int)) % 256,((rdT (t:=(.int .i64)) x10 x12:Int)) % 256])) else none else none
 else
  some (strOfNums r9):=by
 kernel_rfl
theorem uP (k:Nat) (a0:List Int) (a1:List Int):aI (k+1) a0 a1=(P.aI.f k a0 a1).map fun r=>(r.1,r.2,()):=by
 kernel_rfl
end Go.Proofs.YtfbgaddecbiimaaGreatDoor.Q
end
section
namespace Go.Proofs.YtfbgaddecbiimaaGreatDoor.P
open Go.RowKit Go.Proofs.YtfbgaddecbiimaaGreatDoorW.PrintWords Go.Proofs.YtfbgaddecbiimaaGreatDoorW.PrintLast Go.Proofs.YtfbgaddecbiimaaGreatDoorW.PrintMore
theorem evp {α:Type} {c:Prop} [Decidable c] {f g:Nat->Option α} {r:α} (hc:c) (h:Ev f r):Ev (fun k=>if c then f k else g k) r:=by simpa only [if_pos hc] using h
theorem evn {α:Type} {c:Prop} [Decidable c] {f g:Nat->Option α} {r:α} (hc:¬ c) (h:Ev g r):Ev (fun k=>if c then f k else g k) r:=by simpa only [if_neg hc] using h
theorem evb {α β:Type} {o:Option α} {f:Nat->α->Option β} {a:α} {r:β} (h:o=some a) (k:Ev (fun n=>f n a) r):Ev (fun n=>o.bind (f n)) r:=by subst h;exact k
theorem evs {α:Type} (r:α):Ev (fun _=>some r) r:=⟨0,fun _ _=>rfl⟩
theorem evk {α:Type} {o:Option α} {r:α} (h:o=some r):Ev (fun _=>o) r:=⟨0,fun _ _=>h⟩
theorem w64 {x:Int} (h0:-9223372036854775808<=x) (h1:x<=9223372036854775807):wrap64 x=x:=by unfold wrap64;omega
theorem u64 {x:Int} (h0:0<=x) (h1:x<18446744073709551616):IntKind.u64.wrap x=x:=by rw [IntKind.wrap_u64];omega
def vl (B:Int):List Int->Int
 | []=>0
 | x :: t=>x+B*vl B t
def Dg (B:Int) (l:List Int):Prop:=∀ x∈l,0<=x/\x<B
def Nm (l:List Int):Prop:=∀ h:l≠[],l.getLast h≠0
def Can (B:Int) (l:List Int) (n:Int):Prop:=Dg B l/\Nm l/\vl B l=n
section
variable {B:Int} {l a b:List Int}
theorem gT (B:Int) (a b:List Int):vl B (a++b)=vl B a+B ^ a.length*vl B b:=by
 induction a with
 | nil=>simp [vl]
 | cons x t ih =>
  simp only [List.cons_append,vl,ih,List.length_cons]
  grind
theorem mC (l:List Int) (i:Nat) (h:i<l.length):rd l (i:Int)=l[i]:=by simp [rd,h]
theorem cV (B:Int) (l:List Int) (i:Nat) (h:i<l.length):vl B (l.take (i+1))=vl B (l.take i)+rd l (i:Int)*B ^ i:=by
 rw [List.take_succ_eq_append_getElem h,gT,mC l i h,List.length_take,Nat.min_eq_left F3]
 simp only [vl]
 grind
theorem take_set (l:List Int) (i:Nat) (v:Int) (h:i<l.length):(l.set i v).take (i+1)=l.take i++[v]:=by
 rw [List.take_succ_eq_append_getElem (by simpa using h),List.take_set_of_le F3]
 simp
theorem gR (B:Int) (l:List Int) (i:Nat) (v:Int) (h:i<l.length):vl B ((l.set i v).take (i+1))=vl B (l.take i)+v*B ^ i:=by
 rw [take_set l i v h,gT,List.length_take,Nat.min_eq_left F3]
 simp only [vl]
 grind
theorem Dg.nil (B:Int):Dg B []:=fun x hx=>by cases hx
theorem Dg.cons {x:Int} (h:Dg B (x :: l)):(0<=x/\x<B)/\Dg B l:=⟨h x F4,fun y hy=>h y (by simp [hy])⟩
theorem Dg.mk {x:Int} (h0:0<=x) (h1:x<B) (h:Dg B l):Dg B (x :: l):=by
 intro y hy
 rcases List.mem_cons.1 hy with rfl | hy
 ·exact ⟨h0,h1⟩
 exact h y hy
theorem Dg.append (ha:Dg B a) (hb:Dg B b):Dg B (a++b):=by
 intro y hy
 rcases List.mem_append.1 hy with hy | hy
 ·exact ha y hy
 exact hb y hy
theorem Dg.take (h:Dg B l) (i:Nat):Dg B (l.take i):=fun x hx=>h x (List.mem_of_mem_take hx)
theorem Dg.drop (h:Dg B l) (i:Nat):Dg B (l.drop i):=fun x hx=>h x (List.mem_of_mem_drop hx)
theorem Dg.set (h:Dg B l) (i:Nat) {v:Int} (h0:0<=v) (h1:v<B):Dg B (l.set i v):=by
 intro x hx
 rcases List.mem_or_eq_of_mem_set hx with hx | rfl
 ·exact h x hx
 exact ⟨h0,h1⟩
theorem Dg.rep (hB:0<B) (n:Nat):Dg B (List.replicate n 0):=by
 intro x hx
 have:=(List.mem_replicate.1 hx).2
 omega
theorem Dg.take_set {i:Nat} {v:Int} (hi:i<l.length) (h':Dg B (l.take i)) (h0:0<=v) (h1:v<B):Dg B ((l.set i v).take (i+1)):=by
 rw [P.take_set l i v hi]
 exact h'.append (Dg.mk h0 h1 (Dg.nil B))
theorem dB (h:Dg B l) (i:Int) (h0:0<=i) (h1:i<l.length):0<=rd l i/\rd l i<B:=by
 obtain ⟨n,rfl⟩:=Int.eq_ofNat_of_zero_le h0
 rw [mC l n F3]
 exact h _ (List.getElem_mem _)
theorem iu (hB:0<B) (n:Nat):0<B ^ n:=Int.pow_pos hB
theorem bK (hB:0<B):∀ {l:List Int},Dg B l->0<=vl B l
 | [],_=>by simp [vl]
 | x :: t,h=>by
  have h1:=h.cons
  have h2:=bK hB h1.2
  have h3:0<=B*vl B t:=Int.mul_nonneg F3 h2
  simp only [vl]
  omega
theorem gS (hB:0<B):∀ {l:List Int},Dg B l->vl B l<B ^ l.length
 | [],_=>by simp [vl]
 | x :: t,h=>by
  have h1:=h.cons
  have h2:=gS hB h1.2
  have h3:B*(vl B t+1)<=B*B ^ t.length:=Int.mul_le_mul_of_nonneg_left F3 F3
  simp only [vl,List.length_cons]
  rw [Int.mul_add] at h3
  have h4:B ^ (t.length+1)=B*B ^ t.length:=by grind
  omega
theorem Nm.nil:Nm []:=fun h=>absurd rfl h
theorem Nm.tail {x:Int} (h:Nm (x :: l)):Nm l:=by
 intro hl
 have:=h F4
 rwa [List.getLast_cons hl] at this
theorem zj (hB:0<B):∀ {l:List Int},Dg B l->Nm l->l≠[]->0<vl B l
 | [],_,_,h=>absurd rfl h
 | [x],hd,hn,_=>by
  have h1:=hd.cons
  have h2:=hn F4
  simp at h2
  simp [vl]
  omega
 | x :: y :: t,hd,hn,_=>by
  have h1:=hd.cons
  have h2:=zj hB h1.2 hn.tail F4
  have h3:0<B*vl B (y :: t):=Int.mul_pos hB h2
  rw [vl]
  omega
theorem vl_ge (hB:0<B):∀ {l:List Int},Dg B l->Nm l->l≠[]->B ^ (l.length-1)<=vl B l
 | [],_,_,h=>absurd rfl h
 | [x],hd,hn,_=>by
  have h1:=zj hB hd hn F4
  simp
  omega
 | x :: y :: t,hd,hn,_=>by
  have h1:=hd.cons
  have h2:=vl_ge hB h1.2 hn.tail F4
  have h3:B*B ^ ((y :: t).length-1)<=B*vl B (y :: t):=Int.mul_le_mul_of_nonneg_left h2 F3
  rw [vl]
  have h4:B ^ ((x :: y :: t).length-1)=B*B ^ ((y :: t).length-1):=by
   simp only [List.length_cons,Nat.add_sub_cancel]
   grind
  omega
theorem bC (hB:0<B):∀ {a b:List Int} {n:Int},Can B a n->Can B b n->a=b
 | [],[],_,_,_=>rfl
 | [],y :: t,n,h,h'=>by
  have h1:=zj hB h'.1 h'.2.1 F4
  have h2:=h.2.2
  have h3:=h'.2.2
  simp only [vl] at h2
  omega
 | x :: t,[],n,h,h'=>by
  have h1:=zj hB h.1 h.2.1 F4
  have h2:=h.2.2
  have h3:=h'.2.2
  simp only [vl] at h3
  omega
 | x :: s,y :: t,n,h,h'=>by
  have h1:=h.1.cons
  have h2:=h'.1.cons
  have h3:=h.2.2
  have h4:=h'.2.2
  simp only [vl] at h3 h4
  have e1:x=n % B:=by rw [<- h3,Int.add_mul_emod_self_left,Int.emod_eq_of_lt h1.1.1 h1.1.2]
  have e2:y=n % B:=by rw [<- h4,Int.add_mul_emod_self_left,Int.emod_eq_of_lt h2.1.1 h2.1.2]
  have e3:x=y:=F3
  subst e3
  have e4:vl B s=vl B t:=Int.eq_of_mul_eq_mul_left (a:=B) F3 F3
  rw [bC hB (n:=vl B t) ⟨h1.2,h.2.1.tail,e4⟩ ⟨h2.2,h'.2.1.tail,rfl⟩]
theorem Can.fQ (hB:0<B) {n:Int} (h:Can B l n):0<=n:=by rw [<- h.2.2];exact bK hB h.1
theorem Can.zero (B:Int):Can B [] 0:=⟨Dg.nil B,Nm.nil,rfl⟩
theorem Can.yx (hB:0<B) {n:Int} (h:Can B l n):l=[]↔n=0:=by
 constructor
 ·rintro rfl
  exact h.2.2.symm
 rintro rfl
 exact bC hB h (Can.zero B)
theorem Can.iU (hB:0<B) {n:Int} (h:Can B l n):l.length=0↔n=0:=by rw [<- h.yx hB];exact List.length_eq_zero_iff
theorem Can.lt (hB:0<B) {n:Int} (h:Can B l n):n<B ^ l.length:=by rw [<- h.2.2];exact gS hB h.1
theorem Can.ge (hB:0<B) {n:Int} (h:Can B l n) (h0:l.length≠0):B ^ (l.length-1)<=n:=by
 rw [<- h.2.2]
 exact vl_ge hB h.1 h.2.1 (fun e=>h0 (by rw [e];rfl))
theorem eR {B:Int} (hB:1<=B) {i j:Nat} (h:i<=j):B ^ i<=B ^ j:=by
 obtain ⟨d,rfl⟩:=Nat.exists_eq_add_of_le h
 rw [Int.pow_add]
 have h1:1<=B ^ d:=Int.pow_pos F3
 have h2:B ^ i*1<=B ^ i*B ^ d:=Int.mul_le_mul_of_nonneg_left h1 (Int.le_of_lt (Int.pow_pos F3))
 omega
theorem Can.tM (hB:1<B) {n m:Int} (h:Can B a n) (h':Can B b m) (hl:a.length<b.length):n<m:=by
 have h1:=h.lt F3
 have h2:=h'.ge F3 F3
 have h3:=eR (B:=B) F3 (show a.length<=b.length-1 by omega)
 omega
theorem Can.gC (hB:1<B) {n:Int} (h:Can B l n) {k:Nat} (hn:n<B ^ k):l.length<=k:=by
 rcases Nat.lt_or_ge k l.length with hk | hk
 ·have h1:=h.ge F3 F3
  have h2:=eR (B:=B) F3 (show k<=l.length-1 by omega)
  omega
 exact hk
theorem Can.len_ge (hB:1<B) {n:Int} (h:Can B l n) {k:Nat} (hn:B ^ k<=n):k<l.length:=by
 rcases Nat.lt_or_ge k l.length with hk | hk
 ·exact hk
 have h1:=h.lt F3
 have h2:=eR (B:=B) F3 hk
 omega
theorem gF (B:Int) (l:List Int) (i:Nat) (h:i<=l.length):vl B l=vl B (l.take i)+B ^ i*vl B (l.drop i):=by
 conv=>lhs;rw [<- List.take_append_drop i l]
 rw [gT,List.length_take,Nat.min_eq_left h]
theorem DF (l:List Int) (i j:Int) (v:Int) (h:i.toNat≠j.toNat):rd (l.set i.toNat v) j=rd l j:=by
 simp only [rd,List.getD_eq_getElem?_getD]
 rw [List.getElem?_set_ne h]
theorem vY (l:List Int) (i:Int) (v:Int) (h:i.toNat<l.length):rd (l.set i.toNat v) i=v:=by
 simp only [rd,List.getD_eq_getElem?_getD]
 rw [List.getElem?_set_self h]
 rfl
theorem rd_take (l:List Int) (j:Int) (i:Nat) (h:j.toNat<i):rd (l.take i) j=rd l j:=by
 simp only [rd,List.getD_eq_getElem?_getD]
 rw [List.getElem?_take_of_lt h]
theorem tQ (l:List Int) (h:l≠[]):l.getLast h=rd l ((l.length:Int)-1):=by
 have hp:0<l.length:=List.length_pos_iff.2 h
 rw [List.getLast_eq_getElem]
 have e:(l.length:Int)-1=((l.length-1:Nat):Int):=F3
 rw [e,mC _ _ F3]
theorem nL (h:0<l.length->rd l ((l.length:Int)-1)≠0):Nm l:=by
 intro hl
 rw [tQ l hl]
 exact h (List.length_pos_iff.2 hl)
theorem Nm.rd (h:Nm l) (hp:0<l.length):rd l ((l.length:Int)-1)≠0:=by
 have hl:l≠[]:=List.ne_nil_of_length_pos hp
 rw [<- tQ l hl]
 exact h hl
theorem zi (B:Int) (n:Nat):vl B (List.replicate n 0)=0:=by
 induction n with
 | zero=>rfl
 | succ n ih=>simp [List.replicate_succ,vl,ih]
theorem Cy (hB:1<B) (n:Nat):∃ l,Can B l (n:Int):=by
 induction n using Nat.strongRecOn with
 | _ n ih =>
  by_cases h0:n=0
  ·subst h0
   exact ⟨[],Can.zero B⟩
  have hlt:((n:Int) / B).toNat<n:=by
   have h1:(n:Int) / B<n:=Int.ediv_lt_self_of_pos_of_ne_one F3 F3
   have h2:0<=(n:Int) / B:=Int.ediv_nonneg F3 F3
   omega
  obtain ⟨l,h1,h2,h3⟩:=ih _ hlt
  have h4:0<=(n:Int) / B:=Int.ediv_nonneg F3 F3
  have hm:=Int.emod_nonneg (n:Int) (show B≠0 by omega)
  have hm2:=Int.emod_lt_of_pos (n:Int) (show 0<B by omega)
  have h5:vl B ((n:Int) % B :: l)=n:=by
   rw [vl,h3,Int.toNat_of_nonneg h4]
   exact Int.emod_add_mul_ediv _ _
  refine ⟨(n:Int) % B :: l,Dg.mk hm hm2 h1,?_,h5⟩
  intro hne
  rcases List.eq_nil_or_concat l with hl | ⟨_,_,hl⟩
  ·subst hl
   simp only [vl,Int.mul_zero,Int.add_zero] at h5
   simp only [List.getLast_singleton]
   omega
  have hne':l≠[]:=by rw [hl];simp
  rw [List.getLast_cons hne']
  exact h2 hne'
theorem can_ex (hB:1<B) {n:Int} (h:0<=n):∃ l,Can B l n:=by
 obtain ⟨k,rfl⟩:=Int.eq_ofNat_of_zero_le h
 exact Cy hB k
end
abbrev WW:Int:=4294967296
theorem aO:(0:Int)<WW:=by decide
theorem bH:(1:Int)<WW:=by decide
theorem de:WW=4294967296:=rfl
theorem alg_add {vo va vb P c c' v x y W:Int} (h:vo+c*P=va+vb) (h2:v+W*c'=c+x+y):vo+v*P+c'*(W*P)=(va+x*P)+(vb+y*P):=by grind
theorem alg_add1 {vo va vb P c c' v x W:Int} (h:vo+c*P=va+vb) (h2:v+W*c'=c+x):vo+v*P+c'*(W*P)=(va+x*P)+vb:=by grind
theorem alg_last {vo c P n W:Int} (h:vo+c*P=n):vo+P*(c+W*0)=n:=by grind
theorem gn {i:Nat} (h:i<4611686018427387904):wrap64 ((i:Int)+1)=((i+1:Nat):Int):=by rw [w64 F3 F3];omega
theorem yE (n:Nat):∀ (l:List Int),l.length=n->n<4611686018427387904->Dg WW l->∃ r,Ev (fun k=>bZ.l0 k l) r/\Can WW r (vl WW l)/\r.length<=l.length:=by
 induction n with
 | zero =>
  intro l hl _ hd
  have e:l=[]:=List.eq_nil_of_length_eq_zero hl
  subst e
  refine ⟨[],?_,Can.zero _,Nat.le_refl _⟩
  refine Ev.step (fun k=>by rw [bZ.l0]) ?_
  exact evn F4 (evs _)
 | succ n ih =>
  intro l hl hn hd
  have ew:wrap64 ((l.length:Int)-1)=(n:Int):=by rw [w64 F3 F3];omega
  by_cases hz:rd l n=0
  ·obtain ⟨r,h1,h2,h3⟩:=ih (l.take n) (by rw [List.length_take];omega) F3 (hd.take n)
   refine ⟨r,?_,?_,?_⟩
   ·refine Ev.step (fun k=>by rw [bZ.l0]) ?_
    rw [ew]
    refine evp F3 (evp F3 (evp F3 (evp hz (evp F3 ?_))))
    simpa using h1
   ·have h4:=cV WW l n F3
    rw [hz,show n+1=l.length by omega,List.take_length] at h4
    rw [h4]
    simpa using h2
   rw [List.length_take] at h3
   omega
  refine ⟨l,?_,⟨hd,nL (fun _=>?_),rfl⟩,Nat.le_refl _⟩
  ·refine Ev.step (fun k=>by rw [bZ.l0]) ?_
   rw [ew]
   exact evp F3 (evp F3 (evp F3 (evn hz (evs _))))
  rw [hl]
  have e:(((n+1:Nat):Int)-1)=(n:Int):=F3
  rw [e]
  exact hz
theorem eL {l:List Int} (hn:l.length<4611686018427387904) (hd:Dg WW l):∃ r,Ev (fun k=>bZ.f k l) r/\Can WW r (vl WW l)/\r.length<=l.length:=by
 obtain ⟨r,h1,h2⟩:=yE l.length l rfl hn hd
 exact ⟨r,Ev.congr (fun k=>by rw [bZ.f]) h1,h2⟩
theorem fH {a:Int} (h0:0<=a) (h1:a<18446744073709551616):∃ r,Ev (fun k=>cK.f k a) r/\Can WW r a:=by
 have hW:=de
 have hd:Dg WW [a % 4294967296,(a / 4294967296) % 4294967296]:=Dg.mk F3 F3 (Dg.mk F3 F3 (Dg.nil _))
 obtain ⟨r,h2,h3,_⟩:=eL F4 hd
 refine ⟨r,?_,?_⟩
 ·unfold cK.f
  exact Ev.bind h2 (evs _)
 have e:vl WW [a % 4294967296,(a / 4294967296) % 4294967296]=a:=by
  simp only [vl,Int.mul_zero,Int.add_zero,de]
  omega
 rw [<- e]
 exact h3
theorem Ci {a b:List Int} (hl:a.length=b.length) (hn:a.length<4611686018427387904) (ha:Dg WW a) (hb:Dg WW b) (d:Nat) :
 ∀ (i:Nat),i=d->i<=a.length->vl WW (a.drop i)=vl WW (b.drop i)->∃ r,Ev (fun k=>cY.l0 k a b ((i:Int)-1)) r/\(r = -1/\vl WW a<vl WW b∨r=0/\vl WW a=vl WW b∨r=1/\vl WW b<vl WW a):=by
 induction d with
 | zero =>
  rintro i rfl h1 h2
  refine ⟨0,?_,.inr (.inl ⟨rfl,by simpa using h2⟩)⟩
  refine Ev.step (fun k=>by rw [cY.l0]) ?_
  exact evn F3 (evs _)
 | succ d ih =>
  rintro i rfl h1 h2
  have e1:(((d+1:Nat):Int)-1)=(d:Int):=F3
  rw [e1]
  have h3:=gF WW a d F3
  have h4:=gF WW b d F3
  have ea:a.drop d=rd a d :: a.drop (d+1):=by rw [mC a d F3];exact (List.drop_eq_getElem_cons F3)
  have eb:b.drop d=rd b d :: b.drop (d+1):=by rw [mC b d F3];exact (List.drop_eq_getElem_cons F3)
  have ta:=gS aO (ha.take d)
  have tb:=gS aO (hb.take d)
  have ta0:=bK aO (ha.take d)
  have tb0:=bK aO (hb.take d)
  rw [List.length_take,Nat.min_eq_left F3] at ta tb
  by_cases he:rd a d=rd b d
  ·obtain ⟨r,h5,h6⟩:=ih d rfl F3 (by rw [ea,eb,vl,vl,he,h2])
   refine ⟨r,?_,h6⟩
   refine Ev.step (fun k=>by rw [cY.l0]) ?_
   rw [w64 F3 F3]
   exact evp F3 (evp F3 (evp F3 (evp F3 (evp he h5))))
  have h7:vl WW (a.drop d)=rd a d+WW*vl WW (a.drop (d+1)):=by rw [ea,vl]
  have h8:vl WW (b.drop d)=rd b d+WW*vl WW (b.drop (d+1)):=by rw [eb,vl]
  have hp:0<WW ^ d:=Int.pow_pos aO
  by_cases hlt:rd a d<rd b d
  ·refine ⟨-1,?_,.inl ⟨rfl,?_⟩⟩
   ·refine Ev.step (fun k=>by rw [cY.l0]) ?_
    exact evp F3 (evp F3 (evp F3 (evp F3 (evn he (evp hlt (evs _))))))
   have h9:WW ^ d*(vl WW (a.drop d)+1)<=WW ^ d*vl WW (b.drop d):=Int.mul_le_mul_of_nonneg_left (by rw [h7,h8,h2];omega) F3
   rw [Int.mul_add] at h9
   omega
  refine ⟨1,?_,.inr (.inr ⟨rfl,?_⟩)⟩
  ·refine Ev.step (fun k=>by rw [cY.l0]) ?_
   exact evp F3 (evp F3 (evp F3 (evp F3 (evn he (evn hlt (evs _))))))
  have h9:WW ^ d*(vl WW (b.drop d)+1)<=WW ^ d*vl WW (a.drop d):=Int.mul_le_mul_of_nonneg_left (by rw [h7,h8,h2];omega) F3
  rw [Int.mul_add] at h9
  omega
def fa (n m:Int):Int:=if n<m then -1 else if n=m then 0 else 1
theorem oO {a b:List Int} {n m:Int} (hn:a.length<4611686018427387904) (ha:Can WW a n) (hb:Can WW b m):Ev (fun k=>cY.f k a b) (fa n m):=by
 unfold cY.f
 by_cases hl:a.length=b.length
 ·obtain ⟨r,h1,h2⟩:=Ci hl hn ha.1 hb.1 a.length a.length rfl (Nat.le_refl _) (by rw [List.drop_length,hl,List.drop_length])
  have e:r=fa n m:=by
   rw [ha.2.2,hb.2.2] at h2
   unfold fa
   rcases h2 with ⟨rfl,h⟩ | ⟨rfl,h⟩ | ⟨rfl,h⟩
   ·rw [if_pos h]
   ·rw [if_neg F3,if_pos h]
   rw [if_neg F3,if_neg F3]
  rw [<- e]
  refine evp F3 ?_
  rw [w64 F3 F3]
  exact h1
 refine evn F3 ?_
 unfold fa
 by_cases h:a.length<b.length
 ·have:=Can.tM bH ha hb h
  rw [if_pos this]
  exact evp F3 (evs _)
 have:=Can.tM bH hb ha F3
 rw [if_neg (show ¬ n<m by omega),if_neg (show ¬ n=m by omega)]
 exact evn F3 (evs _)
theorem Cm {a b:List Int} (hba:b.length<=a.length) (hn:a.length<1099511627776) (ha:Dg WW a) (hb:Dg WW b) (d:Nat) :
 ∀ (i:Nat) (o:List Int) (c:Int),a.length-i=d->i<=a.length->o.length=a.length+1->Dg WW (o.take i)->0<=c->c<=1->vl WW (o.take i)+c*WW ^ i=vl WW (a.take i)+vl WW (b.take i) ->
 ∃ r,Ev (fun k=>cM.l0 k a b o c a (a.length:Int) (i:Int)) r/\Can WW r (vl WW a+vl WW b)/\r.length<=a.length+1:=by
 induction d with
 | zero =>
  intro i o c h1 h2 h3 h4 h5 h6 h7
  have e:i=a.length:=F3
  subst e
  have hset:o.set a.length c=o.take a.length++[c]:=by
   have:=P.take_set o a.length c F3
   rw [show a.length+1=(o.set a.length c).length by simp [h3],List.take_length] at this
   exact this
  have hd:Dg WW (o.set a.length c):=by rw [hset];exact h4.append (Dg.mk h5 (by have:=bH;omega) (Dg.nil _))
  obtain ⟨r,h8,h9,h10⟩:=eL (l:=o.set a.length c) (by simp;omega) hd
  have hv:vl WW (o.set a.length c)=vl WW a+vl WW b:=by
   rw [hset,gT,List.length_take,Nat.min_eq_left F3]
   rw [List.take_length,List.take_of_length_le hba] at h7
   simp only [vl]
   exact alg_last h7
  refine ⟨r,?_,by rw [<- hv];exact h9,by simp at h10;omega⟩
  refine Ev.step (fun k=>by rw [cM.l0]) ?_
  refine evn F3 (evp F3 (evp F3 ?_))
  have ec:c % 4294967296=c:=F3
  rw [ec,show ((a.length:Int)).toNat=a.length by omega]
  exact Ev.bind h8 (evs _)
 | succ d ih =>
  intro i o c h1 h2 h3 h4 h5 h6 h7
  have hi:i<a.length:=F3
  have hx:=dB ha (i:Int) F3 F3
  have ti:=cV WW a i hi
  have ep:WW ^ (i+1)=WW*WW ^ i:=by rw [Int.pow_succ,Int.mul_comm]
  have hW:=de
  by_cases hib:i<b.length
  ·have hy:=dB hb (i:Int) F3 F3
   have tb:=cV WW b i hib
   have ev:(c+rd a i+rd b i) % 4294967296+WW*((c+rd a i+rd b i) / 4294967296)=c+rd a i+rd b i:=by rw [de];omega
   obtain ⟨r,h8,h9⟩:=ih (i+1) (o.set i ((c+rd a i+rd b i) % 4294967296)) ((c+rd a i+rd b i) / 4294967296) F3 F3 (by simpa using h3)
    (Dg.take_set F3 h4 F3 F3) F3 F3
    (by rw [gR _ _ _ _ F3,ti,tb,ep];exact alg_add h7 ev)
   refine ⟨r,?_,h9⟩
   refine Ev.step (fun k=>by rw [cM.l0]) ?_
   rw [u64 (x:=rd a i) F3 F3,u64 (x:=rd b i) F3 F3,u64 (x:=c+rd a i) F3 F3,u64 (x:=c+rd a i+rd b i) F3 F3,gn F3]
   exact evp F3 (evp F3 (evp F3 (evp F3 (evp F3 h8))))
  have tb:vl WW (b.take (i+1))=vl WW (b.take i):=by rw [List.take_of_length_le F3,List.take_of_length_le F3]
  have ev:(c+rd a i) % 4294967296+WW*((c+rd a i) / 4294967296)=c+rd a i:=by rw [de];omega
  obtain ⟨r,h8,h9⟩:=ih (i+1) (o.set i ((c+rd a i) % 4294967296)) ((c+rd a i) / 4294967296) F3 F3 (by simpa using h3)
   (Dg.take_set F3 h4 F3 F3) F3 F3
   (by rw [gR _ _ _ _ F3,ti,tb,ep];exact alg_add1 h7 ev)
  refine ⟨r,?_,h9⟩
  refine Ev.step (fun k=>by rw [cM.l0]) ?_
  rw [u64 (x:=rd a i) F3 F3,u64 (x:=c+rd a i) F3 F3,gn F3]
  exact evp F3 (evp F3 (evp F3 (evn F3 (evp F3 h8))))
theorem wG {a b:List Int} (hba:b.length<=a.length) (hn:a.length<1099511627776) (ha:Dg WW a) (hb:Dg WW b):∃ r,Ev (fun k=>cM.j0 k a b) r/\Can WW r (vl WW a+vl WW b)/\r.length<=a.length+1:=by
 obtain ⟨r,h1,h2⟩:=Cm hba hn ha hb a.length 0 (List.replicate (a.length+1) 0) 0 F3 F3 F4 (by simp;exact Dg.nil _) F3 F3 (by simp [vl])
 refine ⟨r,?_,h2⟩
 refine Ev.step (fun k=>by rw [cM.j0]) ?_
 have e:wrap64 ((a.length:Int)+1)=((a.length+1:Nat):Int):=by rw [w64 F3 F3];omega
 rw [e,Int.toNat_natCast]
 exact evp F3 (evp F3 h1)
theorem Ck {a b:List Int} {n m:Int} (hla:a.length<1099511627776) (hlb:b.length<1099511627776) (ha:Can WW a n) (hb:Can WW b m):∃ r,Ev (fun k=>cM.f k a b) r/\Can WW r (n+m)/\r.length<=max a.length b.length+1:=by
 unfold cM.f
 rw [<- ha.2.2,<- hb.2.2]
 by_cases h:a.length<b.length
 ·obtain ⟨r,h1,h2,h3⟩:=wG (a:=b) (b:=a) F3 hlb hb.1 ha.1
  exact ⟨r,evp F3 h1,by rw [Int.add_comm];exact h2,F3⟩
 obtain ⟨r,h1,h2,h3⟩:=wG (a:=a) (b:=b) F3 hla ha.1 hb.1
 exact ⟨r,evn F3 h1,h2,F3⟩
theorem za {vo va vb P c c' v x y W:Int} (h:vo-c*P=va-vb) (h2:v-W*c'=x-c-y):vo+v*P-c'*(W*P)=(va+x*P)-(vb+y*P):=by grind
theorem ve {vo va vb P c c' v x W:Int} (h:vo-c*P=va-vb) (h2:v-W*c'=x-c):vo+v*P-c'*(W*P)=(va+x*P)-vb:=by grind
theorem borrow {x c y:Int} (hx:0<=x/\x<4294967296) (hc:0<=c/\c<=1) (hy:0<=y/\y<4294967296) :
 ∃ v c',IntKind.u64.wrap (IntKind.u64.wrap (IntKind.u64.wrap x-c)-y) % 4294967296=v/\IntKind.u64.wrap (IntKind.u64.wrap (IntKind.u64.wrap x-c)-y) / 9223372036854775808=c'/\v-4294967296*c'=x-c-y/\0<=v/\v<4294967296/\0<=c'/\c'<=1:=by
 rw [IntKind.wrap_u64,IntKind.wrap_u64,IntKind.wrap_u64]
 refine ⟨_,_,rfl,rfl,?_,?_,?_,?_,?_⟩<;>omega
theorem borrow1 {x c:Int} (hx:0<=x/\x<4294967296) (hc:0<=c/\c<=1) :
 ∃ v c',IntKind.u64.wrap (IntKind.u64.wrap x-c) % 4294967296=v/\IntKind.u64.wrap (IntKind.u64.wrap x-c) / 9223372036854775808=c'/\v-4294967296*c'=x-c/\0<=v/\v<4294967296/\0<=c'/\c'<=1:=by
 rw [IntKind.wrap_u64,IntKind.wrap_u64]
 refine ⟨_,_,rfl,rfl,?_,?_,?_,?_,?_⟩<;>omega
theorem Ca {a b:List Int} (hba:b.length<=a.length) (hle:vl WW b<=vl WW a) (hn:a.length<1099511627776) (ha:Dg WW a) (hb:Dg WW b) (d:Nat) :
 ∀ (i:Nat) (o:List Int) (c:Int),a.length-i=d->i<=a.length->o.length=a.length->Dg WW (o.take i)->0<=c->c<=1->vl WW (o.take i)-c*WW ^ i=vl WW (a.take i)-vl WW (b.take i) ->
 ∃ r,Ev (fun k=>cW.l0 k b o c a (a.length:Int) (i:Int)) r/\Can WW r (vl WW a-vl WW b)/\r.length<=a.length:=by
 induction d with
 | zero =>
  intro i o c h1 h2 h3 h4 h5 h6 h7
  have e:i=a.length:=F3
  subst e
  rw [List.take_length,List.take_of_length_le hba,<- h3,List.take_length] at h7
  rw [<- h3,List.take_length] at h4
  have hlt:=gS aO h4
  have hc:c=0:=by
   rcases Int.lt_or_eq_of_le h6 with h | h
   ·omega
   subst h
   rw [Int.one_mul] at h7
   omega
  subst hc
  rw [Int.zero_mul,Int.sub_zero] at h7
  obtain ⟨r,h8,h9,h10⟩:=eL (l:=o) F3 h4
  refine ⟨r,?_,by rw [<- h7];exact h9,F3⟩
  refine Ev.step (fun k=>by rw [cW.l0]) ?_
  refine evn F3 ?_
  exact Ev.bind h8 (evs _)
 | succ d ih =>
  intro i o c h1 h2 h3 h4 h5 h6 h7
  have hi:i<a.length:=F3
  have hx:=dB ha (i:Int) F3 F3
  have ti:=cV WW a i hi
  have ep:WW ^ (i+1)=WW*WW ^ i:=by rw [Int.pow_succ,Int.mul_comm]
  by_cases hib:i<b.length
  ·have hy:=dB hb (i:Int) F3 F3
   have tb:=cV WW b i hib
   obtain ⟨v,c',e1,e2,e3,v0,v1,c0,c1⟩:=borrow hx ⟨h5,h6⟩ hy
   obtain ⟨r,h8,h9⟩:=ih (i+1) (o.set i v) c' F3 F3 (by simpa using h3) (Dg.take_set F3 h4 v0 v1) c0 c1
    (by rw [gR _ _ _ _ F3,ti,tb,ep];exact za h7 e3)
   refine ⟨r,?_,h9⟩
   refine Ev.step (fun k=>by rw [cW.l0]) ?_
   rw [u64 (x:=rd b i) hy.1 (by have:=hy.2;have:=de;omega),e1,e2,gn F3]
   exact evp F3 (evp F3 (evp F3 (evp F3 (evp F3 h8))))
  have tb:vl WW (b.take (i+1))=vl WW (b.take i):=by rw [List.take_of_length_le F3,List.take_of_length_le F3]
  obtain ⟨v,c',e1,e2,e3,v0,v1,c0,c1⟩:=borrow1 hx ⟨h5,h6⟩
  obtain ⟨r,h8,h9⟩:=ih (i+1) (o.set i v) c' F3 F3 (by simpa using h3) (Dg.take_set F3 h4 v0 v1) c0 c1
   (by rw [gR _ _ _ _ F3,ti,tb,ep];exact ve h7 e3)
  refine ⟨r,?_,h9⟩
  refine Ev.step (fun k=>by rw [cW.l0]) ?_
  rw [e1,e2,gn F3]
  exact evp F3 (evp F3 (evp F3 (evn F3 (evp F3 h8))))
theorem jG {a b:List Int} {n m:Int} (ha:Can WW a n) (hb:Can WW b m) (h:m<=n):b.length<=a.length:=by
 rcases Nat.lt_or_ge a.length b.length with hl | hl
 ·have:=Can.tM bH ha hb hl
  omega
 exact hl
theorem oM {a b:List Int} {n m:Int} (hn:a.length<1099511627776) (ha:Can WW a n) (hb:Can WW b m) (hle:m<=n):∃ r,Ev (fun k=>cW.f k a b) r/\Can WW r (n-m)/\r.length<=a.length:=by
 have hba:=jG ha hb hle
 rw [<- ha.2.2,<- hb.2.2] at *
 obtain ⟨r,h1,h2⟩:=Ca hba hle hn ha.1 hb.1 a.length 0 (List.replicate a.length 0) 0 F3 F3 F4 (by simp;exact Dg.nil _) F3 F3 (by simp [vl])
 refine ⟨r,?_,h2⟩
 unfold cW.f
 rw [Int.toNat_natCast]
 exact evp F3 (evp F3 h1)
theorem tc (B:Int) (l:List Int) (p q:Nat) (v:Int) (h:p<q) (hq:q<=l.length):vl B ((l.set p v).take q)=vl B (l.take q)+(v-rd l (p:Int))*B ^ p:=by
 have h1:=gF B ((l.set p v).take q) (p+1) (by simp;omega)
 have h2:=gF B (l.take q) (p+1) (by simp;omega)
 have e1:((l.set p v).take q).take (p+1)=(l.set p v).take (p+1):=by rw [List.take_take,Nat.min_eq_left F3]
 have e2:(l.take q).take (p+1)=l.take (p+1):=by rw [List.take_take,Nat.min_eq_left F3]
 have e3:((l.set p v).take q).drop (p+1)=(l.take q).drop (p+1):=by
  rw [List.drop_take,List.drop_take,List.drop_set_of_lt F3]
 rw [e1,e3,gR _ _ _ _ F3] at h1
 rw [e2,cV _ _ _ F3] at h2
 rw [h1,h2]
 grind
theorem alg_mul {T va vb x y old P c c' v W xb Pi Pj:Int} (h:T+c*P=va*vb+x*Pi*xb) (h2:v+W*c'=c+(x*y+old)) (hP:P=Pi*Pj):(T+(v-old)*P)+c'*(W*P)=va*vb+x*Pi*(xb+y*Pj):=by grind
theorem wC {x y:Int} (hx:0<=x/\x<4294967296) (hy:0<=y/\y<4294967296):0<=x*y/\x*y<=18446744065119617025:=by
 have h1:0<=x*y:=Int.mul_nonneg hx.1 hy.1
 have h2:x*y<=4294967295*4294967295:=Int.mul_le_mul F3 F3 hy.1 F3
 omega
theorem mulc {x y old c:Int} (hx:0<=x/\x<4294967296) (hy:0<=y/\y<4294967296) (ho:0<=old/\old<4294967296) (hc:0<=c/\c<4294967296) :
 ∃ v c',IntKind.u64.wrap (c+IntKind.u64.wrap (IntKind.u64.wrap (IntKind.u64.wrap x*IntKind.u64.wrap y)+IntKind.u64.wrap old)) % 4294967296=v/\IntKind.u64.wrap (c+IntKind.u64.wrap (IntKind.u64.wrap (IntKind.u64.wrap x*IntKind.u64.wrap y)+IntKind.u64.wrap old)) / 4294967296=c'/\v+4294967296*c'=c+(x*y+old)/\0<=v/\v<4294967296/\0<=c'/\c'<4294967296:=by
 have hb:=wC hx hy
 rw [u64 (x:=x) F3 F3,u64 (x:=y) F3 F3,u64 (x:=old) F3 F3,u64 (x:=x*y) F3 F3,u64 (x:=x*y+old) F3 F3,u64 (x:=c+(x*y+old)) F3 F3]
 refine ⟨_,_,rfl,rfl,?_,?_,?_,?_,?_⟩<;>omega
theorem AL {T c P va vb x Pi:Int} (h:T+c*P=va*vb+x*Pi*vb):T+c*P=(va+x*Pi)*vb:=by rw [h];grind
theorem Ce {a b:List Int} (hn:a.length+b.length<1099511627776) (ha:Dg WW a) (hb:Dg WW b) (i:Nat) (hi:i<a.length) (R:List Int)
 (hout:∀ o:List Int,o.length=a.length+b.length->Dg WW o->vl WW (o.take (i+1+b.length))=vl WW (a.take (i+1))*vl WW b->Ev (fun k=>bG.l0 k b o a (a.length:Int) ((i+1:Nat):Int)) R) (d:Nat) :
 ∀ (j:Nat) (o:List Int) (c:Int),b.length-j=d->j<=b.length->o.length=a.length+b.length->Dg WW o->0<=c->c<4294967296 ->
 vl WW (o.take (i+b.length))+c*WW ^ (i+j)=vl WW (a.take i)*vl WW b+rd a i*WW ^ i*vl WW (b.take j) ->
 Ev (fun k=>bG.l1 k b o (i:Int) (rd a i) c a (a.length:Int) (i:Int) b (b.length:Int) (j:Int)) R:=by
 induction d with
 | zero =>
  intro j o c h1 h2 h3 h4 h5 h6 h7
  have e:j=b.length:=F3
  subst e
  rw [List.take_length] at h7
  have ei:((i:Int)+(b.length:Int))=((i+b.length:Nat):Int):=F3
  refine Ev.step (fun k=>by rw [bG.l1]) ?_
  rw [ei,w64 (x:=((i+b.length:Nat):Int)) F3 F3,Int.toNat_natCast,gn (i:=i) F3,Int.emod_eq_of_lt h5 h6]
  refine evn F3 (evp F3 (evp F3 ?_))
  refine hout _ (by simpa using h3) (h4.set _ h5 (by rw [de];exact h6)) ?_
  rw [show i+1+b.length=i+b.length+1 by omega,gR _ _ _ _ F3,cV WW a i hi]
  exact AL h7
 | succ d ih =>
  intro j o c h1 h2 h3 h4 h5 h6 h7
  have hx:=dB ha (i:Int) F3 F3
  have hy:=dB hb (j:Int) F3 F3
  have ho:=dB h4 ((i+j:Nat):Int) F3 F3
  rw [de] at hx hy ho
  obtain ⟨v,c',e1,e2,e3,v0,v1,c0,c1⟩:=mulc hx hy ho ⟨h5,h6⟩
  have h8:=ih (j+1) (o.set (i+j) v) c' F3 F3 (by simpa using h3) (h4.set _ v0 (by rw [de];exact v1)) c0 c1
   (by
    rw [tc _ _ _ _ _ F3 F3,cV WW b j F3,show i+(j+1)=i+j+1 by omega,Int.pow_succ,Int.mul_comm (WW ^ (i+j)) WW]
    exact alg_mul h7 e3 (Int.pow_add _ _ _))
  have ei:((i:Int)+(j:Int))=((i+j:Nat):Int):=F3
  refine Ev.step (fun k=>by rw [bG.l1]) ?_
  rw [ei,w64 (x:=((i+j:Nat):Int)) F3 F3,e1,e2,gn F3,Int.toNat_natCast]
  exact evp F3 (evp F3 (evp F3 (evp F3 (evp F3 h8))))
theorem yz {n m A C:Int} (h1:n<A) (h2:m<C) (h3:0<=n) (h4:0<=m):n*m<A*C:=by
 have h5:n*m<=n*C:=Int.mul_le_mul_of_nonneg_left F3 h3
 have h6:n*C<A*C:=Int.mul_lt_mul_of_pos_right h1 F3
 omega
theorem yF {a b:List Int} (hn:a.length+b.length<1099511627776) (ha:Dg WW a) (hb:Dg WW b):∃ R,Can WW R (vl WW a*vl WW b)/\R.length<=a.length+b.length/\∀ (d i:Nat) (o:List Int),a.length-i=d->i<=a.length->o.length=a.length+b.length->Dg WW o->vl WW (o.take (i+b.length))=vl WW (a.take i)*vl WW b ->
 Ev (fun k=>bG.l0 k b o a (a.length:Int) (i:Int)) R:=by
 have key:∀ o:List Int,o.length=a.length+b.length->Dg WW o->vl WW (o.take (a.length+b.length))=vl WW (a.take a.length)*vl WW b->∃ r,Ev (fun k=>bG.l0 k b o a (a.length:Int) (a.length:Int)) r/\Can WW r (vl WW a*vl WW b)/\r.length<=a.length+b.length:=by
  intro o h1 h2 h3
  obtain ⟨r,h8,h9,h10⟩:=eL (l:=o) F3 h2
  rw [<- h1,List.take_length,List.take_length] at h3
  refine ⟨r,?_,by rw [<- h3];exact h9,F3⟩
  refine Ev.step (fun k=>by rw [bG.l0]) ?_
  exact evn F3 (Ev.bind h8 (evs _))
 have hv:∃ R,Can WW R (vl WW a*vl WW b)/\R.length<=a.length+b.length:=by
  have hnn:0<=vl WW a*vl WW b:=Int.mul_nonneg (bK aO ha) (bK aO hb)
  obtain ⟨R,hR⟩:=can_ex bH hnn
  refine ⟨R,hR,?_⟩
  refine hR.gC bH ?_
  rw [Int.pow_add]
  have h1:=gS aO ha
  have h2:=gS aO hb
  have h3:=bK aO ha
  have h4:=bK aO hb
  exact yz h1 h2 h3 h4
 obtain ⟨R,hR,hRl⟩:=hv
 refine ⟨R,hR,hRl,?_⟩
 intro d
 induction d with
 | zero =>
  intro i o h1 h2 h3 h4 h5
  have e:i=a.length:=F3
  subst e
  obtain ⟨r,h6,h7,_⟩:=key o h3 h4 h5
  rw [bC aO hR h7]
  exact h6
 | succ d ih =>
  intro i o h1 h2 h3 h4 h5
  have h6:=Ce hn ha hb i F3 R (fun o' q1 q2 q3=>ih (i+1) o' F3 F3 q1 q2 (by rw [q3])) b.length 0 o 0 F3 F3 h3 h4 F3 F3 (by rw [h5];simp [vl])
  refine Ev.step (fun k=>by rw [bG.l0]) ?_
  exact evp F3 (evp F3 (evp F3 h6))
theorem jz {a b:List Int} {n m:Int} (hn:a.length+b.length<1099511627776) (ha:Can WW a n) (hb:Can WW b m):∃ r,Ev (fun k=>bG.f k a b) r/\Can WW r (n*m)/\r.length<=a.length+b.length:=by
 by_cases ha0:a.length=0
 ·have e:a=[]:=List.eq_nil_of_length_eq_zero ha0
  subst e
  have:n=0:=by rw [<- ha.2.2];rfl
  subst this
  refine ⟨[],?_,by rw [Int.zero_mul];exact Can.zero _,Nat.zero_le _⟩
  unfold bG.f
  refine evp F4 ?_
  refine Ev.step (fun k=>by rw [bG.j0]) ?_
  exact evp rfl (evs _)
 by_cases hb0:b.length=0
 ·have e:b=[]:=List.eq_nil_of_length_eq_zero hb0
  subst e
  have:m=0:=by rw [<- hb.2.2];rfl
  subst this
  refine ⟨[],?_,by rw [Int.mul_zero];exact Can.zero _,Nat.zero_le _⟩
  unfold bG.f
  refine evn F3 ?_
  refine Ev.step (fun k=>by rw [bG.j0]) ?_
  exact evp rfl (evs _)
 obtain ⟨R,h1,h2,h3⟩:=yF hn ha.1 hb.1
 rw [ha.2.2,hb.2.2] at h1
 refine ⟨R,?_,h1,h2⟩
 have h4:=h3 a.length 0 (List.replicate (a.length+b.length) 0) F3 F3 F4 (Dg.rep aO _) (by rw [List.take_replicate];simp [vl,zi])
 unfold bG.f
 refine evn F3 ?_
 refine Ev.step (fun k=>by rw [bG.j0]) ?_
 have e:(a.length:Int)+(b.length:Int)=((a.length+b.length:Nat):Int):=F3
 rw [e,w64 F3 F3,Int.toNat_natCast]
 refine evn ?_ (evp F3 (evp F3 h4))
 simp only [beq_iff_eq]
 omega
abbrev RR:Int:=10000
theorem bh:(0:Int)<RR:=by decide
theorem cF:(1:Int)<RR:=by decide
theorem eC:RR=10000:=rfl
theorem DJ {l:List Int} (hn:l.length<4611686018427387904) (hd:Dg RR l) (d:Nat):∀ i:Nat,i=d->i<=l.length->∃ r,Ev (fun k=>aP.l0 k l (i:Int)) r/\Can RR r (vl RR (l.take i))/\r.length<=i:=by
 induction d with
 | zero =>
  rintro i rfl h
  refine ⟨[],?_,Can.zero _,Nat.le_refl _⟩
  refine Ev.step (fun k=>by rw [aP.l0]) ?_
  exact evn F3 (evp F3 (evp F3 (evs _)))
 | succ d ih =>
  rintro i rfl h
  have hw:((d+1:Nat):Int)-1=(d:Int):=F3
  by_cases hz:rd l d=0
  ·obtain ⟨r,h1,h2,h3⟩:=ih d rfl F3
   refine ⟨r,?_,?_,F3⟩
   ·refine Ev.step (fun k=>by rw [aP.l0]) ?_
    rw [hw,w64 (x:=(d:Int)) F3 F3]
    exact evp F3 (evp F3 (evp F3 (evp hz h1)))
   rw [cV RR l d F3,hz,Int.zero_mul,Int.add_zero]
   exact h2
  refine ⟨l.take (d+1),?_,⟨hd.take _,nL (fun _=>?_),rfl⟩,by rw [List.length_take];omega⟩
  ·refine Ev.step (fun k=>by rw [aP.l0]) ?_
   rw [hw,w64 (x:=(d:Int)) F3 F3,Int.toNat_natCast]
   exact evp F3 (evp F3 (evp F3 (evn hz (evp F3 (evp F3 (evs _))))))
  rw [List.length_take,Nat.min_eq_left F3,hw,rd_take _ _ _ F3]
  exact hz
theorem kD {l:List Int} (hn:l.length<4611686018427387904) (hd:Dg RR l):∃ r,Ev (fun k=>aP.f k l) r/\Can RR r (vl RR l)/\r.length<=l.length:=by
 obtain ⟨r,h1,h2⟩:=DJ hn hd l.length l.length rfl (Nat.le_refl _)
 rw [List.take_length] at h2
 exact ⟨r,Ev.congr (fun k=>by rw [aP.f]) h1,h2⟩
theorem kT {a b:List Int} (hl:a.length=b.length) (hn:a.length<4611686018427387904) (ha:Dg RR a) (hb:Dg RR b) (d:Nat) :
 ∀ (i:Nat),i=d->i<=a.length->vl RR (a.drop i)=vl RR (b.drop i)->∃ r,Ev (fun k=>aG.l0 k a b ((i:Int)-1)) r/\(r = -1/\vl RR a<vl RR b∨r=0/\vl RR a=vl RR b∨r=1/\vl RR b<vl RR a):=by
 induction d with
 | zero =>
  rintro i rfl h1 h2
  refine ⟨0,?_,.inr (.inl ⟨rfl,by simpa using h2⟩)⟩
  refine Ev.step (fun k=>by rw [aG.l0]) ?_
  exact evn F3 (evs _)
 | succ d ih =>
  rintro i rfl h1 h2
  have e1:(((d+1:Nat):Int)-1)=(d:Int):=F3
  rw [e1]
  have h3:=gF RR a d F3
  have h4:=gF RR b d F3
  have ea:a.drop d=rd a d :: a.drop (d+1):=by rw [mC a d F3];exact (List.drop_eq_getElem_cons F3)
  have eb:b.drop d=rd b d :: b.drop (d+1):=by rw [mC b d F3];exact (List.drop_eq_getElem_cons F3)
  have ta:=gS bh (ha.take d)
  have tb:=gS bh (hb.take d)
  have ta0:=bK bh (ha.take d)
  have tb0:=bK bh (hb.take d)
  rw [List.length_take,Nat.min_eq_left F3] at ta tb
  by_cases he:rd a d=rd b d
  ·obtain ⟨r,h5,h6⟩:=ih d rfl F3 (by rw [ea,eb,vl,vl,he,h2])
   refine ⟨r,?_,h6⟩
   refine Ev.step (fun k=>by rw [aG.l0]) ?_
   rw [w64 F3 F3]
   exact evp F3 (evp F3 (evp F3 (evp F3 (evp he h5))))
  have h7:vl RR (a.drop d)=rd a d+RR*vl RR (a.drop (d+1)):=by rw [ea,vl]
  have h8:vl RR (b.drop d)=rd b d+RR*vl RR (b.drop (d+1)):=by rw [eb,vl]
  have hp:0<RR ^ d:=Int.pow_pos bh
  by_cases hlt:rd a d<rd b d
  ·refine ⟨-1,?_,.inl ⟨rfl,?_⟩⟩
   ·refine Ev.step (fun k=>by rw [aG.l0]) ?_
    exact evp F3 (evp F3 (evp F3 (evp F3 (evn he (evp hlt (evs _))))))
   have h9:RR ^ d*(vl RR (a.drop d)+1)<=RR ^ d*vl RR (b.drop d):=Int.mul_le_mul_of_nonneg_left (by rw [h7,h8,h2];omega) F3
   rw [Int.mul_add] at h9
   omega
  refine ⟨1,?_,.inr (.inr ⟨rfl,?_⟩)⟩
  ·refine Ev.step (fun k=>by rw [aG.l0]) ?_
   exact evp F3 (evp F3 (evp F3 (evp F3 (evn he (evn hlt (evs _))))))
  have h9:RR ^ d*(vl RR (b.drop d)+1)<=RR ^ d*vl RR (a.drop d):=Int.mul_le_mul_of_nonneg_left (by rw [h7,h8,h2];omega) F3
  rw [Int.mul_add] at h9
  omega
theorem cU {a b:List Int} {n m:Int} (hn:a.length<4611686018427387904) (ha:Can RR a n) (hb:Can RR b m):Ev (fun k=>aG.f k a b) (fa n m):=by
 unfold aG.f
 by_cases hl:a.length=b.length
 ·obtain ⟨r,h1,h2⟩:=kT hl hn ha.1 hb.1 a.length a.length rfl (Nat.le_refl _) (by rw [List.drop_length,hl,List.drop_length])
  have e:r=fa n m:=by
   rw [ha.2.2,hb.2.2] at h2
   unfold fa
   rcases h2 with ⟨rfl,h⟩ | ⟨rfl,h⟩ | ⟨rfl,h⟩
   ·rw [if_pos h]
   ·rw [if_neg F3,if_pos h]
   rw [if_neg F3,if_neg F3]
  rw [<- e]
  refine evp F3 ?_
  rw [w64 F3 F3]
  exact h1
 refine evn F3 ?_
 unfold fa
 by_cases h:a.length<b.length
 ·have:=Can.tM cF ha hb h
  rw [if_pos this]
  exact evp F3 (evs _)
 have:=Can.tM cF hb ha F3
 rw [if_neg (show ¬ n<m by omega),if_neg (show ¬ n=m by omega)]
 exact evn F3 (evs _)
theorem fg {x:Int} (h:0<=x) (m:Int):Int.tmod x m=x % m:=Int.tmod_eq_emod_of_nonneg h
theorem eT {x:Int} (h:0<=x) (m:Int):Int.tdiv x m=x / m:=Int.tdiv_eq_ediv_of_nonneg h
theorem mw (B:Int) (l:List Int) (x:Int):vl B (l++[x])=vl B l+x*B ^ l.length:=by
 rw [gT]
 simp only [vl]
 grind
theorem alg_sm {vo c P n v c' R:Int} (h:vo+c*P=n) (h2:v+R*c'=c):vo+v*P+c'*(R*P)=n:=by grind
theorem alg_sm2 {vo c P va x k v c' R c0:Int} (h:vo+c*P=c0+k*va) (h2:v+R*c'=c+x*k):vo+v*P+c'*(R*P)=c0+k*(va+x*P):=by grind
theorem BG (o0:List Int) (n:Int) (c:Nat):∀ (o:List Int) (cc:Int),cc=(c:Int)->cc<4611686018427387904->o.length+c<1099511627776->Dg RR o->vl RR o+cc*RR ^ o.length=n->∃ r,Ev (fun k=>au.l1 k cc o) r/\Can RR r n:=by
 induction c using Nat.strongRecOn with
 | _ c ih =>
  intro o cc hcc hlt hl hd hv
  by_cases h0:c=0
  ·subst h0
   have e:cc=0:=F3
   subst e
   rw [Int.zero_mul,Int.add_zero] at hv
   obtain ⟨r,h1,h2,_⟩:=kD (l:=o) F3 hd
   refine ⟨r,?_,by rw [<- hv];exact h2⟩
   refine Ev.step (fun k=>by rw [au.l1]) ?_
   exact evn F3 (Ev.bind h1 (evs _))
  obtain ⟨r,h1,h2⟩:=ih (c / 10000) F3 (o++[cc % 10000]) (cc / 10000) F3 F3 (by simp;omega) (hd.append (Dg.mk F3 (by rw [eC];omega) (Dg.nil _)))
   (by rw [mw,List.length_append,List.length_singleton,Int.pow_succ,Int.mul_comm (RR ^ o.length) RR];exact alg_sm hv (by rw [eC];omega))
  refine ⟨r,?_,h2⟩
  refine Ev.step (fun k=>by rw [au.l1]) ?_
  rw [fg (x:=cc) F3,eT (x:=cc) F3,w64 (x:=cc / 10000) F3 F3]
  exact evp F3 (evp F3 h1)
theorem BF {a:List Int} (hn:a.length<549755813888) (ha:Dg RR a) {k0 c0:Int} (hk:0<=k0/\k0<=65536) (d:Nat) :
 ∀ (i:Nat) (o:List Int) (c:Int),a.length-i=d->i<=a.length->o.length=i->Dg RR o->0<=c->c<=65536->vl RR o+c*RR ^ i=c0+k0*vl RR (a.take i) ->
 ∃ r,Ev (fun k=>au.l0 k k0 c o a (a.length:Int) (i:Int)) r/\Can RR r (c0+k0*vl RR a):=by
 induction d with
 | zero =>
  intro i o c h1 h2 h3 h4 h5 h6 h7
  have e:i=a.length:=F3
  subst e
  rw [List.take_length] at h7
  obtain ⟨r,h8,h9⟩:=BG o (c0+k0*vl RR a) c.toNat o c F3 F3 F3 h4 (by rw [h3];exact h7)
  refine ⟨r,?_,h9⟩
  refine Ev.step (fun k=>by rw [au.l0]) ?_
  exact evn F3 h8
 | succ d ih =>
  intro i o c h1 h2 h3 h4 h5 h6 h7
  have hx:=dB ha (i:Int) F3 F3
  rw [eC] at hx
  have hm:0<=rd a i*k0:=Int.mul_nonneg hx.1 hk.1
  have hm2:rd a i*k0<=9999*65536:=Int.mul_le_mul F3 hk.2 hk.1 F3
  obtain ⟨r,h8,h9⟩:=ih (i+1) (o++[(c+rd a i*k0) % 10000]) ((c+rd a i*k0) / 10000) F3 F3 (by simp;omega) (h4.append (Dg.mk F3 (by rw [eC];omega) (Dg.nil _))) F3 F3
   (by rw [mw,h3,cV RR a i F3,Int.pow_succ,Int.mul_comm (RR ^ i) RR];exact alg_sm2 h7 (by rw [eC];omega))
  refine ⟨r,?_,h9⟩
  refine Ev.step (fun k=>by rw [au.l0]) ?_
  rw [w64 (x:=rd a i*k0) F3 F3,w64 (x:=c+rd a i*k0) F3 F3,fg (x:=c+rd a i*k0) F3,eT (x:=c+rd a i*k0) F3,w64 (x:=(c+rd a i*k0) / 10000) F3 F3,gn (i:=i) F3]
  exact evp F3 (evp F3 (evp F3 (evp F3 h8)))
theorem iD {a:List Int} {n k0 c0:Int} (hn:a.length<549755813888) (ha:Can RR a n) (hk:0<=k0/\k0<=65536) (hc:0<=c0/\c0<=65536):∃ r,Ev (fun k=>au.f k a k0 c0) r/\Can RR r (n*k0+c0)/\r.length<=a.length+2:=by
 obtain ⟨r,h1,h2⟩:=BF hn ha.1 hk (c0:=c0) a.length 0 [] c0 F3 F3 rfl (Dg.nil _) hc.1 hc.2 (by simp [vl])
 rw [ha.2.2,Int.add_comm,Int.mul_comm] at h2
 refine ⟨r,?_,h2,?_⟩
 ·unfold au.f
  have e:(a.length:Int)+2=((a.length+2:Nat):Int):=F3
  rw [e,w64 F3 F3,Int.toNat_natCast]
  exact evp F3 (evp F3 h1)
 refine h2.gC cF ?_
 have h3:=ha.lt bh
 have h4:=ha.fQ bh
 have h5:n*k0<=n*65536:=Int.mul_le_mul_of_nonneg_left hk.2 h4
 have h6:RR ^ (a.length+2)=RR ^ a.length*100000000:=by rw [Int.pow_add];rfl
 rw [h6]
 omega
theorem zK (n:Int) (c:Nat):∀ (o:List Int) (cc:Int),cc=(c:Int)->cc<4611686018427387904->o.length+c<17592186044416->Dg RR o->(c=0->Nm o)->vl RR o+cc*RR ^ o.length=n->∃ r,Ev (fun k=>aN.l0 k cc o) r/\Can RR r n:=by
 induction c using Nat.strongRecOn with
 | _ c ih =>
  intro o cc hcc hlt hl hd hnm hv
  by_cases h0:c=0
  ·subst h0
   have e:cc=0:=F3
   subst e
   rw [Int.zero_mul,Int.add_zero] at hv
   refine ⟨o,?_,hd,hnm rfl,hv⟩
   refine Ev.step (fun k=>by rw [aN.l0]) ?_
   exact evn F3 (evs _)
  obtain ⟨r,h1,h2⟩:=ih (c / 10000) F3 (o++[cc % 10000]) (cc / 10000) F3 F3 (by simp;omega) (hd.append (Dg.mk F3 (by rw [eC];omega) (Dg.nil _)))
   (by
    intro hz hne
    simp only [List.getLast_append,List.getLast_singleton]
    simp
    omega)
   (by rw [mw,List.length_append,List.length_singleton,Int.pow_succ,Int.mul_comm (RR ^ o.length) RR];exact alg_sm hv (by rw [eC];omega))
  refine ⟨r,?_,h2⟩
  refine Ev.step (fun k=>by rw [aN.l0]) ?_
  rw [fg (x:=cc) F3,eT (x:=cc) F3,w64 (x:=cc / 10000) F3 F3]
  exact evp F3 (evp F3 h1)
theorem r_Int_sp {a:Int} (h0:0<=a) (h1:a<10000000000000):∃ r,Ev (fun k=>aN.f k a) r/\Can RR r a:=by
 obtain ⟨r,h2,h3⟩:=zK a a.toNat [] a F3 F3 (by simp;omega) (Dg.nil _) (fun _=>Nm.nil) (by simp [vl])
 exact ⟨r,Ev.congr (fun k=>by rw [aN.f]) h2,h3⟩
theorem and16 {x:Int} (h0:0<=x) (h1:x<4294967296):Go.bits .and .u32 x 65535=x % 65536 :=
 bits_mask .u32 32 (by decide) (fun n h0 h1=>by rw [IntKind.wrap_u32];omega) 16 (by decide) x h0 h1
theorem zV {B:Int} {l:List Int} (hB:0<B) (hd:Dg B l) (h:B ^ (l.length-1)<=vl B l):Nm l:=by
 refine nL (fun hp hz=>?_)
 have e:(l.length:Int)-1=((l.length-1:Nat):Int):=F3
 rw [e] at hz
 have h1:=cV B l (l.length-1) F3
 rw [hz,show l.length-1+1=l.length by omega,List.take_length] at h1
 have h2:=gS hB (hd.take (l.length-1))
 rw [List.length_take,Nat.min_eq_left F3] at h2
 omega
theorem alg_radd {vo va vb P c c' v x y R:Int} (h:vo+c*P=va+vb) (h2:v+R*c'=c+x+y):(vo+v*P)+c'*(R*P)=(va+x*P)+(vb+y*P):=by grind
theorem eQ (l:List Int) (i:Nat) (h:l.length<=i):l.take i=l:=List.take_of_length_le h
theorem r_Add_ev {a b:List Int} {n m:Int} (hn:a.length+b.length<68719476736) (ha:Can RR a n) (hb:Can RR b m) (d:Nat) :
 ∀ (i:Nat) (o:List Int) (c:Int),max a.length b.length+1-i=d->i<=max a.length b.length+1->o.length=i->Dg RR o->0<=c->c<=1->(max a.length b.length<i->c=0/\RR ^ (max a.length b.length)<=n+m) ->
 vl RR o+c*RR ^ i=vl RR (a.take i)+vl RR (b.take i)->∃ r,Ev (fun k=>az.l0 k a b o c (i:Int)) r/\Can RR r (n+m)/\r.length<=max a.length b.length+1:=by
 induction d with
 | zero =>
  intro i o c h1 h2 h3 h4 h5 h6 h7 h8
  obtain ⟨hc,hge⟩:=h7 F3
  subst hc
  rw [eQ a i F3,eQ b i F3,ha.2.2,hb.2.2,Int.zero_mul,Int.add_zero] at h8
  refine ⟨o,?_,⟨h4,zV bh h4 ?_,h8⟩,F3⟩
  ·refine Ev.step (fun k=>by rw [az.l0]) ?_
   refine evn F3 (evn F3 ?_)
   refine Ev.step (fun k=>by rw [az.j1]) ?_
   exact evn F4 (evs _)
  rw [h8,h3,show i-1=max a.length b.length by omega]
  exact hge
 | succ d ih =>
  intro i o c h1 h2 h3 h4 h5 h6 h7 h8
  have step:∀ (x y:Int),0<=x/\x<10000->0<=y/\y<10000->vl RR (a.take (i+1))=vl RR (a.take i)+x*RR ^ i->vl RR (b.take (i+1))=vl RR (b.take i)+y*RR ^ i->(max a.length b.length<i+1->(c+x+y) / 10000=0/\RR ^ (max a.length b.length)<=n+m) ->
   ∃ r,Ev (fun k=>az.l0 k a b (o++[(c+x+y) % 10000]) ((c+x+y) / 10000) ((i+1:Nat):Int)) r/\Can RR r (n+m)/\r.length<=max a.length b.length+1:=by
   intro x y hx hy ta tb hg
   refine ih (i+1) _ _ F3 F3 (by simp;omega) (h4.append (Dg.mk F3 (by rw [eC];omega) (Dg.nil _))) F3 F3 hg ?_
   rw [mw,h3,ta,tb,Int.pow_succ,Int.mul_comm (RR ^ i) RR]
   exact alg_radd h8 (by rw [eC];omega)
  by_cases hia:i<a.length
  ·have hx:=dB ha.1 (i:Int) F3 F3
   rw [eC] at hx
   by_cases hib:i<b.length
   ·have hy:=dB hb.1 (i:Int) F3 F3
    rw [eC] at hy
    obtain ⟨r,q1,q2⟩:=step _ _ hx hy (cV RR a i hia) (cV RR b i hib) (fun h=>F3)
    refine ⟨r,?_,q2⟩
    refine Ev.step (fun k=>by rw [az.l0]) ?_
    refine evp F3 ?_
    refine Ev.step (fun k=>by rw [az.j1]) ?_
    rw [w64 (x:=c+rd a i) F3 F3,w64 (x:=c+rd a i+rd b i) F3 F3,fg (x:=c+rd a i+rd b i) F3,eT (x:=c+rd a i+rd b i) F3,w64 (x:=(c+rd a i+rd b i) / 10000) F3 F3,gn (i:=i) F3]
    exact evp rfl (evp F3 (evp F3 (evp F3 (evp F3 q1))))
   obtain ⟨r,q1,q2⟩:=step _ 0 hx F3 (cV RR a i hia) (by rw [eQ b i F3,eQ b (i+1) F3];omega) (fun h=>F3)
   rw [Int.add_zero] at q1
   refine ⟨r,?_,q2⟩
   refine Ev.step (fun k=>by rw [az.l0]) ?_
   refine evp F3 ?_
   refine Ev.step (fun k=>by rw [az.j1]) ?_
   rw [w64 (x:=c+rd a i) F3 F3,fg (x:=c+rd a i) F3,eT (x:=c+rd a i) F3,w64 (x:=(c+rd a i) / 10000) F3 F3,gn (i:=i) F3]
   exact evp rfl (evp F3 (evp F3 (evn F3 (evp F3 q1))))
  by_cases hib:i<b.length
  ·have hy:=dB hb.1 (i:Int) F3 F3
   rw [eC] at hy
   obtain ⟨r,q1,q2⟩:=step 0 _ F3 hy (by rw [eQ a i F3,eQ a (i+1) F3];omega) (cV RR b i hib) (fun h=>F3)
   rw [Int.add_zero] at q1
   refine ⟨r,?_,q2⟩
   refine Ev.step (fun k=>by rw [az.l0]) ?_
   refine evn F3 (evp F3 ?_)
   refine Ev.step (fun k=>by rw [az.j1]) ?_
   rw [w64 (x:=c+rd b i) F3 F3,fg (x:=c+rd b i) F3,eT (x:=c+rd b i) F3,w64 (x:=(c+rd b i) / 10000) F3 F3,gn (i:=i) F3]
   exact evp rfl (evn F3 (evp F3 (evp F3 (evp F3 q1))))
  rw [eQ a i F3,eQ b i F3,ha.2.2,hb.2.2] at h8
  by_cases hc:c=0
  ·subst hc
   rw [Int.zero_mul,Int.add_zero] at h8
   refine ⟨o,?_,⟨h4,?_,h8⟩,F3⟩
   ·refine Ev.step (fun k=>by rw [az.l0]) ?_
    refine evn F3 (evn F3 ?_)
    refine Ev.step (fun k=>by rw [az.j1]) ?_
    exact evn F4 (evs _)
   by_cases hi0:i=0
   ·have:o=[]:=List.eq_nil_of_length_eq_zero F3
    rw [this]
    exact Nm.nil
   refine zV bh h4 ?_
   rw [h8,h3]
   have hna:=ha.fQ bh
   have hnb:=hb.fQ bh
   by_cases hge:b.length<=a.length
   ·have:=ha.ge bh F3
    have h9:=eR (B:=RR) (by have:=cF;omega) (show i-1<=a.length-1 by omega)
    omega
   have:=hb.ge bh F3
   have h9:=eR (B:=RR) (by have:=cF;omega) (show i-1<=b.length-1 by omega)
   omega
  have hc1:c=1:=F3
  subst hc1
  have him:i<=max a.length b.length:=by
   rcases Nat.lt_or_ge (max a.length b.length) i with h | h
   ·have:=(h7 h).1
    omega
   exact h
  have hvo:=bK bh h4
  obtain ⟨r,q1,q2⟩:=step 0 0 F3 F3 (by rw [eQ a i F3,eQ a (i+1) F3];omega) (by rw [eQ b i F3,eQ b (i+1) F3];omega)
   (fun h=>⟨F3,by rw [show max a.length b.length=i by omega];omega⟩)
  refine ⟨r,?_,q2⟩
  refine Ev.step (fun k=>by rw [az.l0]) ?_
  refine evn F3 (evn F3 ?_)
  refine Ev.step (fun k=>by rw [az.j1]) ?_
  rw [gn (i:=i) F3,show Int.tmod 1 10000=(1+0+0) % 10000 by decide,show wrap64 (Int.tdiv 1 10000)=(1+0+0) / 10000 by decide +kernel]
  exact evp F4 (evn F3 (evn F3 (evp F3 q1)))
theorem r_Add_sp {a b:List Int} {n m:Int} (hn:a.length+b.length<68719476736) (ha:Can RR a n) (hb:Can RR b m):∃ r,Ev (fun k=>az.f k a b) r/\Can RR r (n+m)/\r.length<=max a.length b.length+1:=by
 obtain ⟨r,h1,h2⟩:=r_Add_ev hn ha hb (max a.length b.length+1) 0 [] 0 F3 F3 rfl (Dg.nil _) F3 F3 (fun h=>F3) (by simp [vl])
 exact ⟨r,Ev.congr (fun k=>by rw [az.f];rfl) h1,h2⟩
theorem fL (l:List Int) (i:Nat) (v:Int):(l.set i v).drop (i+1)=l.drop (i+1):=by rw [List.drop_set_of_lt F3]
theorem jx (a o:List Int) (i:Nat) (h:o.drop i=a.drop i) (hi:i<a.length) (hl:o.length=a.length):rd o i=rd a i:=by
 rw [mC o i F3,mC a i hi]
 have h1:(o.drop i)[0]?=(a.drop i)[0]?:=by rw [h]
 rw [List.getElem?_drop,List.getElem?_drop,Nat.add_zero,List.getElem?_eq_getElem F3,List.getElem?_eq_getElem hi] at h1
 exact Option.some.inj h1
theorem drop_tail (a o:List Int) (i:Nat) (h:o.drop i=a.drop i):o.drop (i+1)=a.drop (i+1):=by
 rw [<- List.drop_drop,<- List.drop_drop,h]
theorem r_Sub_ev {a b:List Int} (hba:b.length<=a.length) (hle:vl RR b<=vl RR a) (hn:a.length<68719476736) (ha:Dg RR a) (hb:Dg RR b) (d:Nat) :
 ∀ (i:Nat) (o:List Int) (c:Int),a.length-i=d->i<=a.length->o.length=a.length->o.drop i=a.drop i->Dg RR (o.take i)->0<=c->c<=1->vl RR (o.take i)-c*RR ^ i=vl RR (a.take i)-vl RR (b.take i) ->
 ∃ r,Ev (fun k=>aJ.l0 k b o c (a.length:Int) (i:Int)) r/\Can RR r (vl RR a-vl RR b)/\r.length<=a.length:=by
 induction d with
 | zero =>
  intro i o c h1 h2 h3 hdr h4 h5 h6 h7
  have e:i=a.length:=F3
  subst e
  rw [List.take_length,List.take_of_length_le hba,<- h3,List.take_length] at h7
  rw [<- h3,List.take_length] at h4
  have hlt:=gS bh h4
  have hc:c=0:=by
   rcases Int.lt_or_eq_of_le h6 with h | h
   ·omega
   subst h
   rw [Int.one_mul] at h7
   omega
  subst hc
  rw [Int.zero_mul,Int.sub_zero] at h7
  obtain ⟨r,h8,h9,h10⟩:=kD (l:=o) F3 h4
  refine ⟨r,?_,by rw [<- h7];exact h9,F3⟩
  refine Ev.step (fun k=>by rw [aJ.l0]) ?_
  refine evn F3 ?_
  exact Ev.bind h8 (evs _)
 | succ d ih =>
  intro i o c h1 h2 h3 hdr h4 h5 h6 h7
  have hi:i<a.length:=F3
  have hx:=dB ha (i:Int) F3 F3
  rw [eC] at hx
  have hro:=jx a o i hdr hi h3
  have ti:=cV RR a i hi
  have ep:RR ^ (i+1)=RR*RR ^ i:=by rw [Int.pow_succ,Int.mul_comm]
  have hdt:=drop_tail a o i hdr
  by_cases hib:i<b.length
  ·have hy:=dB hb (i:Int) F3 F3
   rw [eC] at hy
   have tb:=cV RR b i hib
   by_cases hneg:rd a i-c-rd b i<0
   ·obtain ⟨r,h8,h9⟩:=ih (i+1) (o.set i (rd a i-c-rd b i+10000)) 1 F3 F3 (by simpa using h3) (by rw [fL,hdt]) (Dg.take_set F3 h4 F3 (by rw [eC];omega)) F3 F3
     (by rw [gR _ _ _ _ F3,ti,tb,ep];exact za h7 (by rw [eC];omega))
    refine ⟨r,?_,h9⟩
    refine Ev.step (fun k=>by rw [aJ.l0]) ?_
    rw [hro,w64 (x:=rd a i-c) F3 F3,w64 (x:=rd a i-c-rd b i) F3 F3,w64 (x:=rd a i-c-rd b i+10000) F3 F3,gn (i:=i) F3]
    exact evp F3 (evp F3 (evp F3 (evp F3 (evp hneg h8))))
   obtain ⟨r,h8,h9⟩:=ih (i+1) (o.set i (rd a i-c-rd b i)) 0 F3 F3 (by simpa using h3) (by rw [fL,hdt]) (Dg.take_set F3 h4 F3 (by rw [eC];omega)) F3 F3
    (by rw [gR _ _ _ _ F3,ti,tb,ep];exact za h7 (by rw [eC];omega))
   refine ⟨r,?_,h9⟩
   refine Ev.step (fun k=>by rw [aJ.l0]) ?_
   rw [hro,w64 (x:=rd a i-c) F3 F3,w64 (x:=rd a i-c-rd b i) F3 F3,gn (i:=i) F3]
   exact evp F3 (evp F3 (evp F3 (evp F3 (evn hneg h8))))
  have tb:vl RR (b.take (i+1))=vl RR (b.take i):=by rw [List.take_of_length_le F3,List.take_of_length_le F3]
  by_cases hneg:rd a i-c<0
  ·obtain ⟨r,h8,h9⟩:=ih (i+1) (o.set i (rd a i-c+10000)) 1 F3 F3 (by simpa using h3) (by rw [fL,hdt]) (Dg.take_set F3 h4 F3 (by rw [eC];omega)) F3 F3
    (by rw [gR _ _ _ _ F3,ti,tb,ep];exact ve h7 (by rw [eC];omega))
   refine ⟨r,?_,h9⟩
   refine Ev.step (fun k=>by rw [aJ.l0]) ?_
   rw [hro,w64 (x:=rd a i-c) F3 F3,w64 (x:=rd a i-c+10000) F3 F3,gn (i:=i) F3]
   exact evp F3 (evp F3 (evp F3 (evn F3 (evp hneg h8))))
  obtain ⟨r,h8,h9⟩:=ih (i+1) (o.set i (rd a i-c)) 0 F3 F3 (by simpa using h3) (by rw [fL,hdt]) (Dg.take_set F3 h4 F3 (by rw [eC];omega)) F3 F3
   (by rw [gR _ _ _ _ F3,ti,tb,ep];exact ve h7 (by rw [eC];omega))
  refine ⟨r,?_,h9⟩
  refine Ev.step (fun k=>by rw [aJ.l0]) ?_
  rw [hro,w64 (x:=rd a i-c) F3 F3,gn (i:=i) F3]
  exact evp F3 (evp F3 (evp F3 (evn F3 (evn hneg h8))))
theorem je {a b:List Int} {n m:Int} (ha:Can RR a n) (hb:Can RR b m) (h:m<=n):b.length<=a.length:=by
 rcases Nat.lt_or_ge a.length b.length with hl | hl
 ·have:=Can.tM cF ha hb hl
  omega
 exact hl
theorem BH {l:List Int} (h:l.length<17592186044416):cy.f l=some l:=by
 unfold cy.f
 simp [h]
theorem zJ {a b:List Int} {n m:Int} (hn:a.length<68719476736) (ha:Can RR a n) (hb:Can RR b m) (hle:m<=n):∃ r,Ev (fun k=>aJ.f k a b) r/\Can RR r (n-m)/\r.length<=a.length:=by
 have hba:=je ha hb hle
 rw [<- ha.2.2,<- hb.2.2] at *
 obtain ⟨r,h1,h2⟩:=r_Sub_ev hba hle hn ha.1 hb.1 a.length 0 a 0 F3 F3 rfl rfl (by simp;exact Dg.nil _) F3 F3 (by simp [vl])
 refine ⟨r,?_,h2⟩
 unfold aJ.f
 exact evb (BH F3) h1
theorem tf (B:Int) (l:List Int) (p:Nat) (v:Int) (h:p<l.length):vl B (l.set p v)=vl B l+(v-rd l (p:Int))*B ^ p:=by
 have h1:=tc B l p l.length v h (Nat.le_refl _)
 rwa [List.take_of_length_le F4,List.take_length] at h1
theorem Fz {T c P V old v c' W:Int} (h:T+c*P=V) (h2:v+W*c'=c+old):(T+(v-old)*P)+c'*(W*P)=V:=by grind
theorem r_Mul_c {a b:List Int} {V:Int} (hn:a.length+b.length<68719476736) (hV:V<RR ^ (a.length+b.length)) (s:Int) (R:List Int)
 (hout:∀ o:List Int,o.length=a.length+b.length+1->Dg RR o->vl RR o=V->Ev (fun k=>ax.l0 k b o a (a.length:Int) (wrap64 (s+1))) R) (d:Nat) :
 ∀ (p:Nat) (o:List Int) (c:Int),a.length+b.length+1-p=d->p<=a.length+b.length+1->o.length=a.length+b.length+1->Dg RR o->0<=c->c<10000->vl RR o+c*RR ^ p=V ->
 Ev (fun k=>ax.l2 k b o c (p:Int) a (a.length:Int) s) R:=by
 induction d with
 | zero =>
  intro p o c h1 h2 h3 h4 h5 h6 h7
  have hvo:=bK bh h4
  have hc:c=0:=by
   rcases Int.lt_or_eq_of_le h5 with h | h
   ·have h8:=eR (B:=RR) (by have:=cF;omega) (show a.length+b.length<=p by omega)
    have h9:1*RR ^ p<=c*RR ^ p:=Int.mul_le_mul_of_nonneg_right F3 (Int.le_of_lt (Int.pow_pos bh))
    omega
   omega
  subst hc
  rw [Int.zero_mul,Int.add_zero] at h7
  refine Ev.step (fun k=>by rw [ax.l2]) ?_
  exact evn F3 (hout o h3 h4 h7)
 | succ d ih =>
  intro p o c h1 h2 h3 h4 h5 h6 h7
  by_cases hc:c=0
  ·subst hc
   rw [Int.zero_mul,Int.add_zero] at h7
   refine Ev.step (fun k=>by rw [ax.l2]) ?_
   exact evn F3 (hout o h3 h4 h7)
  have ho:=dB h4 (p:Int) F3 F3
  rw [eC] at ho
  have h8:=ih (p+1) (o.set p ((c+rd o p) % 10000)) ((c+rd o p) / 10000) F3 F3 (by simpa using h3) (h4.set _ F3 (by rw [eC];omega)) F3 F3
   (by rw [tf _ _ _ _ F3,Int.pow_succ,Int.mul_comm (RR ^ p) RR];exact Fz h7 (by rw [eC];omega))
  refine Ev.step (fun k=>by rw [ax.l2]) ?_
  rw [w64 (x:=c+rd o p) F3 F3,fg (x:=c+rd o p) F3,eT (x:=c+rd o p) F3,w64 (x:=(c+rd o p) / 10000) F3 F3,gn (i:=p) F3,Int.toNat_natCast]
  exact evp F3 (evp F3 (evp F3 h8))
theorem mul_bd4 {x y:Int} (hx:0<=x/\x<10000) (hy:0<=y/\y<10000):0<=x*y/\x*y<=99980001:=by
 have h1:0<=x*y:=Int.mul_nonneg hx.1 hy.1
 have h2:x*y<=9999*9999:=Int.mul_le_mul F3 F3 hy.1 F3
 omega
theorem alg_rmul {T va vb x y old P c c' v W xb Pi Pj:Int} (h:T+c*P=va*vb+x*Pi*xb) (h2:v+W*c'=c+(old+x*y)) (hP:P=Pi*Pj):(T+(v-old)*P)+c'*(W*P)=va*vb+x*Pi*(xb+y*Pj):=by grind
theorem r_Mul_in {a b:List Int} (hn:a.length+b.length<68719476736) (ha:Dg RR a) (hb:Dg RR b) (i:Nat) (hi:i<a.length) (R:List Int)
 (hout:∀ o:List Int,o.length=a.length+b.length+1->Dg RR o->vl RR o=vl RR (a.take (i+1))*vl RR b->Ev (fun k=>ax.l0 k b o a (a.length:Int) ((i+1:Nat):Int)) R) (d:Nat) :
 ∀ (j:Nat) (o:List Int) (c:Int),b.length-j=d->j<=b.length->o.length=a.length+b.length+1->Dg RR o->0<=c->c<10000 ->
 vl RR o+c*RR ^ (i+j)=vl RR (a.take i)*vl RR b+rd a i*RR ^ i*vl RR (b.take j) ->
 Ev (fun k=>ax.l1 k b o (i:Int) (rd a i) c a (a.length:Int) (i:Int) b (b.length:Int) (j:Int)) R:=by
 have hx:=dB ha (i:Int) F3 F3
 rw [eC] at hx
 induction d with
 | zero =>
  intro j o c h1 h2 h3 h4 h5 h6 h7
  have e:j=b.length:=F3
  subst e
  rw [List.take_length] at h7
  have h8:=AL h7
  rw [<- cV RR a i hi] at h8
  have hlt:vl RR (a.take (i+1))*vl RR b<RR ^ (a.length+b.length):=by
   rw [Int.pow_add]
   have q1:=gS bh (ha.take (i+1))
   have q2:=eR (B:=RR) (by have:=cF;omega) (show (a.take (i+1)).length<=a.length by rw [List.length_take];omega)
   exact yz F3 (gS bh hb) (bK bh (ha.take _)) (bK bh hb)
  have h9:=r_Mul_c (a:=a) (b:=b) (V:=vl RR (a.take (i+1))*vl RR b) hn hlt (i:Int) R (fun o' q1 q2 q3=>by rw [gn (i:=i) F3];exact hout o' q1 q2 q3) (a.length+b.length+1-(i+b.length)) (i+b.length) o c rfl F3 h3 h4 h5 h6 h8
  have ei:((i:Int)+(b.length:Int))=((i+b.length:Nat):Int):=F3
  refine Ev.step (fun k=>by rw [ax.l1]) ?_
  rw [ei,w64 (x:=((i+b.length:Nat):Int)) F3 F3]
  exact evn F3 h9
 | succ d ih =>
  intro j o c h1 h2 h3 h4 h5 h6 h7
  have hy:=dB hb (j:Int) F3 F3
  have ho:=dB h4 ((i+j:Nat):Int) F3 F3
  rw [eC] at hy ho
  have hm:=mul_bd4 hx hy
  have h8:=ih (j+1) (o.set (i+j) ((c+(rd o ((i+j:Nat):Int)+rd a i*rd b j)) % 10000)) ((c+(rd o ((i+j:Nat):Int)+rd a i*rd b j)) / 10000) F3 F3 (by simpa using h3) (h4.set _ F3 (by rw [eC];omega)) F3 F3
   (by
    rw [tf _ _ _ _ F3,cV RR b j F3,show i+(j+1)=i+j+1 by omega,Int.pow_succ,Int.mul_comm (RR ^ (i+j)) RR]
    exact alg_rmul h7 (by rw [eC];omega) (Int.pow_add _ _ _))
  have ei:((i:Int)+(j:Int))=((i+j:Nat):Int):=F3
  refine Ev.step (fun k=>by rw [ax.l1]) ?_
  rw [ei,w64 (x:=((i+j:Nat):Int)) F3 F3,w64 (x:=rd a i*rd b j) F3 F3,w64 (x:=rd o ((i+j:Nat):Int)+rd a i*rd b j) F3 F3,w64 (x:=c+(rd o ((i+j:Nat):Int)+rd a i*rd b j)) F3 F3,
   fg (x:=c+(rd o ((i+j:Nat):Int)+rd a i*rd b j)) F3,eT (x:=c+(rd o ((i+j:Nat):Int)+rd a i*rd b j)) F3,w64 (x:=(c+(rd o ((i+j:Nat):Int)+rd a i*rd b j)) / 10000) F3 F3,gn (i:=j) F3,Int.toNat_natCast]
  exact evp F3 (evp F3 (evp F3 (evp F3 (evp F3 h8))))
theorem DK {a b:List Int} (hn:a.length+b.length<68719476736) (ha:Dg RR a) (hb:Dg RR b):∃ R,Can RR R (vl RR a*vl RR b)/\R.length<=a.length+b.length/\∀ (d i:Nat) (o:List Int),a.length-i=d->i<=a.length->o.length=a.length+b.length+1->Dg RR o->vl RR o=vl RR (a.take i)*vl RR b ->
 Ev (fun k=>ax.l0 k b o a (a.length:Int) (i:Int)) R:=by
 have hnn:0<=vl RR a*vl RR b:=Int.mul_nonneg (bK bh ha) (bK bh hb)
 obtain ⟨R,hR⟩:=can_ex cF hnn
 have hRl:R.length<=a.length+b.length:=by
  refine hR.gC cF ?_
  rw [Int.pow_add]
  exact yz (gS bh ha) (gS bh hb) (bK bh ha) (bK bh hb)
 refine ⟨R,hR,hRl,?_⟩
 intro d
 induction d with
 | zero =>
  intro i o h1 h2 h3 h4 h5
  have e:i=a.length:=F3
  subst e
  rw [List.take_length] at h5
  obtain ⟨r,h8,h9,h10⟩:=kD (l:=o) F3 h4
  rw [h5] at h9
  rw [bC bh hR h9]
  refine Ev.step (fun k=>by rw [ax.l0]) ?_
  exact evn F3 (Ev.bind h8 (evs _))
 | succ d ih =>
  intro i o h1 h2 h3 h4 h5
  have h6:=r_Mul_in hn ha hb i F3 R (fun o' q1 q2 q3=>ih (i+1) o' F3 F3 q1 q2 q3) b.length 0 o 0 F3 F3 h3 h4 F3 F3 (by rw [h5];simp [vl])
  refine Ev.step (fun k=>by rw [ax.l0]) ?_
  exact evp F3 (evp F3 (evp F3 h6))
theorem r_Mul_sp {a b:List Int} {n m:Int} (hn:a.length+b.length<68719476736) (ha:Can RR a n) (hb:Can RR b m):∃ r,Ev (fun k=>ax.f k a b) r/\Can RR r (n*m)/\r.length<=a.length+b.length:=by
 obtain ⟨R,h1,h2,h3⟩:=DK hn ha.1 hb.1
 rw [ha.2.2,hb.2.2] at h1
 refine ⟨R,?_,h1,h2⟩
 have h4:=h3 a.length 0 (List.replicate (a.length+b.length+1) 0) F3 F3 F4 (Dg.rep bh _) (by simp [vl,zi])
 unfold ax.f
 have e:(a.length:Int)+(b.length:Int)=((a.length+b.length:Nat):Int):=F3
 rw [e,w64 (x:=((a.length+b.length:Nat):Int)) F3 F3,gn (i:=a.length+b.length) F3,Int.toNat_natCast]
 exact evp F3 (evp F3 h4)
theorem kY (l:List Int) (x:Int) (h:l++[x]≠[]):(l++[x]).getLast h=x:=by simp
theorem eA (l:List Int) (i:Nat) (v:Int) (h:i<l.length):(l.set i v).drop i=v :: l.drop (i+1):=by
 rw [List.drop_eq_getElem_cons (by simpa using h),List.getElem_set_self,fL]
theorem eY (l:List Int) (i:Nat) (h:i<l.length):l.drop i=rd l i :: l.drop (i+1):=by
 rw [mC l i h]
 exact List.drop_eq_getElem_cons h
theorem Fw {t r va q rr d R K:Int} (h:t*K+r=va) (h2:q*K+rr=r*R+d):(q+R*t)*K+rr=d+R*va:=by grind
theorem BE {a:List Int} (hn:a.length<68719476736) (ha:Dg RR a) {K:Int} (hK:1<=K/\K<=65536) (d:Nat):∀ (i:Nat) (o:List Int) (r:Int),i=d->i<=a.length->o.length=a.length->Dg RR (o.drop i)->0<=r->r<K->vl RR (o.drop i)*K+r=vl RR (a.drop i) ->
 ∃ q z,Ev (fun k=>aX.l0 k a K o r ((i:Int)-1)) (q,z)/\(∃ m,Can RR q m/\m*K+z=vl RR a)/\0<=z/\z<K/\q.length<=a.length:=by
 induction d with
 | zero =>
  rintro i o r rfl h1 h2 h3 h4 h5 h6
  rw [List.drop_zero] at h3 h6
  rw [List.drop_zero] at h6
  obtain ⟨q,h7,h8,h9⟩:=kD (l:=o) F3 h3
  refine ⟨q,r,?_,⟨_,h8,h6⟩,h4,h5,F3⟩
  refine Ev.step (fun k=>by rw [aX.l0]) ?_
  exact evn F3 (Ev.bind h7 (evs _))
 | succ d ih =>
  rintro i o r rfl h1 h2 h3 h4 h5 h6
  have e1:(((d+1:Nat):Int)-1)=(d:Int):=F3
  have hx:=dB ha (d:Int) F3 F3
  rw [eC] at hx
  have hv0:0<=r*10000+rd a d:=F3
  have hq0:0<=(r*10000+rd a d) / K:=Int.ediv_nonneg hv0 F3
  have hq1:(r*10000+rd a d) / K<10000:=by
   refine Int.ediv_lt_of_lt_mul F3 ?_
   have:(r+1)*10000<=K*10000:=Int.mul_le_mul_of_nonneg_right F3 F3
   omega
  have hm0:=Int.emod_nonneg (r*10000+rd a d) (show K≠0 by omega)
  have hm1:=Int.emod_lt_of_pos (r*10000+rd a d) (show 0<K by omega)
  have hdv:(r*10000+rd a d) / K*K+(r*10000+rd a d) % K=r*RR+rd a d:=by rw [eC];exact Int.ediv_mul_add_emod _ _
  obtain ⟨q,z,h7,h8⟩:=ih d (o.set d ((r*10000+rd a d) / K)) ((r*10000+rd a d) % K) rfl F3 (by simpa using h2)
   (by rw [eA _ _ _ F3];exact Dg.mk hq0 (by rw [eC];exact hq1) h3) hm0 hm1
   (by rw [eA _ _ _ F3,eY a d F3,vl,vl];exact Fw h6 hdv)
  refine ⟨q,z,?_,h8⟩
  refine Ev.step (fun k=>by rw [aX.l0]) ?_
  rw [e1,w64 (x:=r*10000) F3 F3,w64 (x:=r*10000+rd a d) F3 F3,eT hv0,fg hv0,w64 (x:=(r*10000+rd a d) / K) F3 F3,w64 (x:=(d:Int)-1) F3 F3,Int.toNat_natCast]
  exact evp F3 (evp F3 (evp F3 (evn F3 (evp F3 h7))))
theorem tB {a:List Int} {n K:Int} (hn:a.length<68719476736) (ha:Can RR a n) (hK:1<=K/\K<=65536):∃ q,Ev (fun k=>aX.f k a K) (q,n % K)/\Can RR q (n / K)/\q.length<=a.length:=by
 obtain ⟨q,z,h1,⟨m,h2,h3⟩,h4,h5,h6⟩:=BE hn ha.1 hK a.length a.length (List.replicate a.length 0) 0 rfl (Nat.le_refl _) F4 (by rw [List.drop_of_length_le F4];exact Dg.nil _) F3 F3 (by rw [List.drop_of_length_le F4,List.drop_of_length_le F4];simp [vl])
 rw [ha.2.2] at h3
 have e1:n % K=z:=by rw [<- h3,Int.add_comm,Int.add_mul_emod_self_right,Int.emod_eq_of_lt h4 h5]
 have e2:n / K=m:=by
  have h7:=Int.ediv_mul_add_emod n K
  rw [e1] at h7
  exact Int.eq_of_mul_eq_mul_right (a:=K) F3 F3
 rw [e1,e2]
 refine ⟨q,?_,h2,h6⟩
 unfold aX.f
 rw [Int.toNat_natCast,w64 F3 F3]
 exact evp F3 (evp F3 h1)
abbrev HH:Int:=65536
theorem FF:HH=65536:=rfl
theorem vl2 (h:List Int) (i:Nat) (hi:i+1<h.length):vl HH (h.drop i)=rd h i+65536*rd h ((i+1:Nat):Int)+WW*vl HH (h.drop (i+2)):=by
 rw [eY h i F3,vl,eY h (i+1) hi,vl,de,FF,show i+1+1=i+2 from rfl]
 omega
theorem vl1 (h:List Int) (i:Nat) (hi:i+1=h.length):vl HH (h.drop i)=rd h i:=by
 rw [eY h i F3,vl,List.drop_of_length_le F3]
 simp [vl]
theorem alg_w {vo P x w V W T:Int} (h:vo+P*T=V) (h2:T=w+W*x):(vo+w*P)+(W*P)*x=V:=by grind
theorem xY {h:List Int} (hn:h.length<68719476736) (hd:Dg HH h) (hnm:Nm h) (n:Int) (d:Nat):∀ (i:Nat) (o:List Int),h.length-i=d->i=2*o.length->Dg WW o->(h.length<=i->Nm o)->vl WW o+WW ^ o.length*vl HH (h.drop i)=n ->
 ∃ r,Ev (fun k=>aB.l1 k h o (i:Int)) r/\Can WW r n:=by
 induction d using Nat.strongRecOn with
 | _ d ih =>
  intro i o h1 h2 h3 h4 h5
  by_cases hi:i<h.length
  ·have hx:=dB hd (i:Int) F3 F3
   rw [FF] at hx
   have ei2:(i:Int)+2=((i+2:Nat):Int):=F3
   by_cases hi1:i+1<h.length
   ·have hy:=dB hd ((i+1:Nat):Int) F3 F3
    rw [FF] at hy
    have hl:i+2=h.length->rd h ((i+1:Nat):Int)≠0:=by
     intro he
     have h6:=hnm.rd F3
     rw [show (h.length:Int)-1=((i+1:Nat):Int) by omega] at h6
     exact h6
    obtain ⟨r,h7,h8⟩:=ih (h.length-(i+2)) F3 (i+2) (o++[rd h i+65536*rd h ((i+1:Nat):Int)]) rfl (by simp;omega) (h3.append (Dg.mk F3 (by rw [de];omega) (Dg.nil _)))
     (by
      intro hle hne
      rw [kY]
      have:=hl F3
      omega)
     (by rw [mw,List.length_append,List.length_singleton,Int.pow_succ,Int.mul_comm (WW ^ o.length) WW];exact alg_w h5 (vl2 h i hi1))
    refine ⟨r,?_,h8⟩
    refine Ev.step (fun k=>by rw [aB.l1]) ?_
    have ew:(rd h i % 4294967296+rd h ((i+1:Nat):Int) % 4294967296*65536 % 4294967296) % 4294967296=rd h i+65536*rd h ((i+1:Nat):Int):=F3
    rw [gn (i:=i) F3,ew,ei2,w64 (x:=((i+2:Nat):Int)) F3 F3]
    exact evp F3 (evp F3 (evp F3 (evp F3 (evp F3 h7))))
   have hl:rd h (i:Int)≠0:=by
    have h6:=hnm.rd F3
    rw [show (h.length:Int)-1=(i:Int) by omega] at h6
    exact h6
   obtain ⟨r,h7,h8⟩:=ih (h.length-(i+2)) F3 (i+2) (o++[rd h i]) rfl (by simp;omega) (h3.append (Dg.mk F3 (by rw [de];omega) (Dg.nil _)))
    (by
     intro hle hne
     rw [kY]
     exact hl)
    (by
     rw [mw,List.length_append,List.length_singleton,Int.pow_succ,Int.mul_comm (WW ^ o.length) WW]
     refine alg_w (T:=vl HH (h.drop i)) h5 ?_
     rw [vl1 h i F3,List.drop_of_length_le F3]
     simp [vl])
   refine ⟨r,?_,h8⟩
   refine Ev.step (fun k=>by rw [aB.l1]) ?_
   have ew:rd h i % 4294967296=rd h i:=F3
   rw [gn (i:=i) F3,ew,ei2,w64 (x:=((i+2:Nat):Int)) F3 F3]
   exact evp F3 (evp F3 (evn F3 (evp F3 h7)))
  rw [List.drop_of_length_le F3] at h5
  refine ⟨o,?_,h3,h4 F3,by simpa [vl] using h5⟩
  refine Ev.step (fun k=>by rw [aB.l1]) ?_
  exact evn F3 (evs _)
theorem alg_h {vh P m q r K n:Int} (h:vh+m*P=n) (h2:q*K+r=m):(vh+r*P)+q*(K*P)=n:=by grind
theorem BD (n:Int) (c:Nat):∀ (a h:List Int) (m:Int),m.toNat=c->Can RR a m->a.length+h.length<17179869184->h.length+4*a.length<17179869184->Dg HH h->(m=0->Nm h)->vl HH h+m*HH ^ h.length=n->(∀ a':List Int,a'.length<=a.length->True) ->
 ∃ r,Ev (fun k=>aB.l0 k a h) r/\Can WW r n:=by
 induction c using Nat.strongRecOn with
 | _ c ih =>
  intro a h m hm ha hl hl2 hd hnm hv _
  have hm0:=ha.fQ bh
  by_cases hz:m=0
  ·have e:a=[]:=(ha.yx bh).2 hz
   subst hz
   subst e
   rw [Int.zero_mul,Int.add_zero] at hv
   obtain ⟨r,h1,h2⟩:=xY F3 hd (hnm rfl) n h.length 0 [] F3 rfl (Dg.nil _) (fun _=>Nm.nil) (by simpa [vl] using hv)
   refine ⟨r,?_,h2⟩
   refine Ev.step (fun k=>by rw [aB.l0]) ?_
   exact evn F4 h1
  have hal:a.length≠0:=fun h0=>hz ((ha.iU bh).1 h0)
  obtain ⟨q,h1,h2,h3⟩:=tB (K:=65536) F3 ha F3
  have hq:q.length+1<=a.length:=by
   have h4:=ha.lt bh
   have h5:m / 65536<RR ^ (a.length-1):=by
    have h6:RR ^ a.length=RR ^ (a.length-1)*RR:=by
     conv=>lhs;rw [show a.length=a.length-1+1 by omega,Int.pow_succ]
    rw [h6,eC] at h4
    rw [eC]
    omega
   have:=h2.gC cF h5
   omega
  obtain ⟨r,h7,h8⟩:=ih (m / 65536).toNat F3 q (h++[m % 65536]) (m / 65536) rfl h2 (by simp;omega) (by simp;omega) (hd.append (Dg.mk F3 (by rw [FF];omega) (Dg.nil _)))
   (by
    intro hz2 hne
    rw [kY]
    omega)
   (by rw [mw,List.length_append,List.length_singleton,Int.pow_succ,Int.mul_comm (HH ^ h.length) HH];exact alg_h hv (by rw [FF];omega)) (fun _ _=>trivial)
  refine ⟨r,?_,h8⟩
  refine Ev.step (fun k=>by rw [aB.l0]) ?_
  exact evp F3 (Ev.bind h1 (evp F3 h7))
theorem BC {a:List Int} {n:Int} (hn:a.length<1073741824) (ha:Can RR a n):∃ r,Ev (fun k=>aB.f k a) r/\Can WW r n:=by
 obtain ⟨r,h1,h2⟩:=BD n n.toNat a [] n rfl ha (by simp;omega) (by simp;omega) (Dg.nil _) (fun _=>Nm.nil) (by simp [vl]) (fun _ _=>trivial)
 exact ⟨r,Ev.congr (fun k=>by rw [aB.f]) h1,h2⟩
theorem eq_ev {a b:List Int} (hl:a.length=b.length) (hn:a.length<4611686018427387904) (d:Nat):∀ i:Nat,a.length-i=d->i<=a.length->a.take i=b.take i->∃ r,Ev (fun k=>aA.l0 k a b (a.length:Int) (i:Int)) r/\(r=true↔a=b):=by
 induction d with
 | zero =>
  intro i h1 h2 h3
  have e:i=a.length:=F3
  subst e
  rw [List.take_length,List.take_of_length_le F3] at h3
  refine ⟨true,?_,by simp [h3]⟩
  refine Ev.step (fun k=>by rw [aA.l0]) ?_
  exact evn F3 (evs _)
 | succ d ih =>
  intro i h1 h2 h3
  by_cases he:rd a i=rd b i
  ·obtain ⟨r,h4,h5⟩:=ih (i+1) F3 F3 (by
    rw [List.take_succ_eq_append_getElem F3,List.take_succ_eq_append_getElem F3,h3,<- mC a i F3,<- mC b i F3,he])
   refine ⟨r,?_,h5⟩
   refine Ev.step (fun k=>by rw [aA.l0]) ?_
   rw [gn (i:=i) F3]
   exact evp F3 (evp F3 (evp F3 (evp F3 (evp he h4))))
  refine ⟨false,?_,by
   simp only [Bool.false_eq_true,false_iff]
   rintro rfl
   exact he rfl⟩
  refine Ev.step (fun k=>by rw [aA.l0]) ?_
  exact evp F3 (evp F3 (evp F3 (evp F3 (evn he (evs _)))))
theorem eq_sp (a b:List Int) (hn:a.length<4611686018427387904):∃ r,Ev (fun k=>aA.f k a b) r/\(r=true↔a=b):=by
 unfold aA.f
 by_cases hl:a.length=b.length
 ·obtain ⟨r,h1,h2⟩:=eq_ev hl hn a.length 0 F3 F3 F4
  exact ⟨r,evp F3 h1,h2⟩
 refine ⟨false,evn F3 (evs _),?_⟩
 simp only [Bool.false_eq_true,false_iff]
 rintro rfl
 exact hl rfl
theorem zS (k:IntKind) (a b:Int):Go.bits .or k a b=Go.bits .or k b a:=by
 simp only [Go.bits]
 rw [BitVec.or_comm]
theorem or64 {h x:Int} (hh:0<=h/\h<4294967296) (hx:0<=x/\x<4294967296):Go.bits .or .u64 (h*4294967296) x=h*4294967296+x :=
 bits_join .u64 64 (by decide) (fun n h0 h1=>by rw [IntKind.wrap_u64];omega) 32 _ _ F3 F3 F3 hx.1 F3 F3
theorem or64' {h x:Int} (hh:0<=h/\h<4294967296) (hx:0<=x/\x<4294967296):Go.bits .or .u64 x (h*4294967296)=h*4294967296+x:=by
 rw [zS,or64 hh hx]
theorem alg_dw {t r va q rr d R K:Int} (h:t*K+r=va) (h2:q*K+rr=r*R+d):(q+R*t)*K+rr=d+R*va:=by grind
theorem sV {a:List Int} (hn:a.length<68719476736) (ha:Dg WW a) {K:Int} (hK:1<=K/\K<4294967296) (d:Nat):∀ (i:Nat) (o:List Int) (r:Int),i=d->i<=a.length->o.length=a.length->Dg WW (o.drop i)->0<=r->r<K->vl WW (o.drop i)*K+r=vl WW (a.drop i) ->
 ∃ q z,Ev (fun k=>cJ.l0 k a K o r ((i:Int)-1)) (q,z)/\(∃ m,Can WW q m/\m*K+z=vl WW a)/\0<=z/\z<K/\q.length<=a.length:=by
 induction d with
 | zero =>
  rintro i o r rfl h1 h2 h3 h4 h5 h6
  rw [List.drop_zero] at h3 h6
  rw [List.drop_zero] at h6
  obtain ⟨q,h7,h8,h9⟩:=eL (l:=o) F3 h3
  have er:r % 4294967296=r:=F3
  refine ⟨q,r,?_,⟨_,h8,h6⟩,h4,h5,F3⟩
  refine Ev.step (fun k=>by rw [cJ.l0]) ?_
  rw [er]
  exact evn F3 (Ev.bind h7 (evs _))
 | succ d ih =>
  rintro i o r rfl h1 h2 h3 h4 h5 h6
  have e1:(((d+1:Nat):Int)-1)=(d:Int):=F3
  have hx:=dB ha (d:Int) F3 F3
  rw [de] at hx
  have hv0:0<=r*4294967296+rd a d:=F3
  have hq0:0<=(r*4294967296+rd a d) / K:=Int.ediv_nonneg hv0 F3
  have hq1:(r*4294967296+rd a d) / K<4294967296:=by
   refine Int.ediv_lt_of_lt_mul F3 ?_
   have:(r+1)*4294967296<=K*4294967296:=Int.mul_le_mul_of_nonneg_right F3 F3
   omega
  have hm0:=Int.emod_nonneg (r*4294967296+rd a d) (show K≠0 by omega)
  have hm1:=Int.emod_lt_of_pos (r*4294967296+rd a d) (show 0<K by omega)
  have hdv:(r*4294967296+rd a d) / K*K+(r*4294967296+rd a d) % K=r*WW+rd a d:=by rw [de];exact Int.ediv_mul_add_emod _ _
  obtain ⟨q,z,h7,h8⟩:=ih d (o.set d ((r*4294967296+rd a d) / K)) ((r*4294967296+rd a d) % K) rfl F3 (by simpa using h2)
   (by rw [eA _ _ _ F3];exact Dg.mk hq0 (by rw [de];exact hq1) h3) hm0 hm1
   (by rw [eA _ _ _ F3,eY a d F3,vl,vl];exact alg_dw h6 hdv)
  refine ⟨q,z,?_,h8⟩
  refine Ev.step (fun k=>by rw [cJ.l0]) ?_
  rw [e1,u64 (x:=r*4294967296) F3 F3,u64 (x:=rd a d) F3 F3,u64 (x:=K) F3 F3,or64 ⟨h4,F3⟩ hx,eT hv0,fg hv0,u64 (x:=(r*4294967296+rd a d) / K) F3 F3,w64 (x:=(d:Int)-1) F3 F3,Int.toNat_natCast,Int.emod_eq_of_lt hq0 hq1]
  exact evp F3 (evp F3 (evp F3 (evn F3 (evp F3 h7))))
theorem sU {a:List Int} {n K:Int} (hn:a.length<68719476736) (ha:Can WW a n) (hK:1<=K/\K<4294967296):∃ q,Ev (fun k=>cJ.f k a K) (q,n % K)/\Can WW q (n / K)/\q.length<=a.length:=by
 obtain ⟨q,z,h1,⟨m,h2,h3⟩,h4,h5,h6⟩:=sV hn ha.1 hK a.length a.length (List.replicate a.length 0) 0 rfl (Nat.le_refl _) F4 (by rw [List.drop_eq_nil_of_le F4];exact Dg.nil _) F3 F3 (by rw [List.drop_eq_nil_of_le F4,List.drop_length];simp [vl])
 rw [ha.2.2] at h3
 have e1:n / K=m:=by
  rw [<- h3,Int.add_comm,Int.add_mul_ediv_right _ _ F3,Int.ediv_eq_zero_of_lt h4 h5];omega
 have e2:n % K=z:=by
  rw [<- h3,Int.add_comm,Int.add_mul_emod_self_right,Int.emod_eq_of_lt h4 h5]
 refine ⟨q,?_,by rw [e1];exact h2,h6⟩
 unfold cJ.f
 rw [e2,w64 (x:=(a.length:Int)-1) F3 F3,Int.toNat_natCast]
 exact evp F3 (evp F3 h1)
theorem tab_len:∀ i:Fin 256,∃ L:Fin 9,bt (⟨#[0,1,2,2,3,3,3,3,4,4,4,4,4,4,4,4,5,5,5,5,5,5,5,5,5,5,5,5,5,5,5,5,6,6,6,6,6,6,6,6,6,6,6,6,6,6,6,6,6,6,6,6,6,6,6,6,6,6,6,6,6,6,6,6,7,7,7,7,7,7,7,7,7,7,7,7,7,7,7,7,7,7,7,7,7,7,7,7,7,7,7,7,7,7,7,7,7,7,7,7,7,7,7,7,7,7,7,7,7,7,7,7,7,7,7,7,7,7,7,7,7,7,7,7,7,7,7,7,8,8,8,8,8,8,8,8,8,8,8,8,8,8,8,8,8,8,8,8,8,8,8,8,8,8,8,8,8,8,8,8,8,8,8,8,8,8,8,8,8,8,8,8,8,8,8,8,8,8,8,8,8,8,8,8,8,8,8,8,8,8,8,8,8,8,8,8,8,8,8,8,8,8,8,8,8,8,8,8,8,8,8,8,8,8,8,8,8,8,8,8,8,8,8,8,8,8,8,8,8,8,8,8,8,8,8,8,8,8,8,8,8,8,8,8,8,8,8,8,8,8,8,8,8,8,8,8]⟩:ByteArray) ((i.val:Nat):Int)=(L.val:Int)/\i.val<2 ^ L.val/\(i.val≠0->2 ^ (L.val-1)<=i.val/\1<=L.val):=by decide +kernel
theorem p9 {x:Int} (h0:0<=x) (h1:x<256):∃ L:Nat,bt (⟨#[0,1,2,2,3,3,3,3,4,4,4,4,4,4,4,4,5,5,5,5,5,5,5,5,5,5,5,5,5,5,5,5,6,6,6,6,6,6,6,6,6,6,6,6,6,6,6,6,6,6,6,6,6,6,6,6,6,6,6,6,6,6,6,6,7,7,7,7,7,7,7,7,7,7,7,7,7,7,7,7,7,7,7,7,7,7,7,7,7,7,7,7,7,7,7,7,7,7,7,7,7,7,7,7,7,7,7,7,7,7,7,7,7,7,7,7,7,7,7,7,7,7,7,7,7,7,7,7,8,8,8,8,8,8,8,8,8,8,8,8,8,8,8,8,8,8,8,8,8,8,8,8,8,8,8,8,8,8,8,8,8,8,8,8,8,8,8,8,8,8,8,8,8,8,8,8,8,8,8,8,8,8,8,8,8,8,8,8,8,8,8,8,8,8,8,8,8,8,8,8,8,8,8,8,8,8,8,8,8,8,8,8,8,8,8,8,8,8,8,8,8,8,8,8,8,8,8,8,8,8,8,8,8,8,8,8,8,8,8,8,8,8,8,8,8,8,8,8,8,8,8,8,8,8,8,8]⟩:ByteArray) x=(L:Int)/\L<=8/\x<2 ^ L/\(x≠0->2 ^ (L-1)<=x/\1<=L):=by
 obtain ⟨n,rfl⟩:=Int.eq_ofNat_of_zero_le h0
 obtain ⟨L,h2,h3,h4⟩:=tab_len ⟨n,F3⟩
 refine ⟨L.val,h2,F3,by exact_mod_cast h3,fun h=>?_⟩
 obtain ⟨h5,h6⟩:=h4 (show n≠0 by omega)
 exact ⟨by exact_mod_cast h5,h6⟩
theorem Di {x y:Int} {L k:Nat} (h0:0<=x) (e:y=x / 2 ^ k) (h1:y<2 ^ L) (h2:2 ^ (L-1)<=y) (h3:1<=L):x<2 ^ (k+L)/\2 ^ (k+L-1)<=x:=by
 have hp:(0:Int)<2 ^ k:=Int.pow_pos (by decide)
 have d1:=Int.mul_ediv_add_emod x (2 ^ k)
 have d2:=Int.emod_nonneg x (show (2:Int) ^ k≠0 by omega)
 have d3:=Int.emod_lt_of_pos x hp
 rw [<- e] at d1
 have e2:k+L-1=k+(L-1):=F3
 rw [e2,Int.pow_add,Int.pow_add]
 have m1:(2:Int) ^ k*(y+1)<=2 ^ k*2 ^ L:=Int.mul_le_mul_of_nonneg_left F3 F3
 have m2:(2:Int) ^ k*2 ^ (L-1)<=2 ^ k*y:=Int.mul_le_mul_of_nonneg_left h2 F3
 rw [Int.mul_add] at m1
 omega
theorem len32_sp {x:Int} (h0:0<=x) (h1:x<4294967296):∃ L:Nat,bits_Len32.f x=some (L:Int)/\L<=32/\x<2 ^ L/\(x≠0->2 ^ (L-1)<=x/\1<=L):=by
 unfold bits_Len32.f
 by_cases c1:x>=65536
 ·by_cases c2:x / 65536>=256
  ·have e:x / 65536 / 256 % 256=x / 2 ^ 24:=by omega
   obtain ⟨L,t1,t2,t3,t4⟩:=p9 (x:=x / 2 ^ 24) F3 F3
   obtain ⟨t5,t6⟩:=t4 F3
   obtain ⟨t7,t8⟩:=Di h0 rfl t3 t5 t6
   refine ⟨24+L,?_,F3,t7,fun _=>⟨t8,F3⟩⟩
   rw [if_pos c1,if_pos c2,e,if_pos F3,if_pos F3,t1,w64 (x:=(L:Int)) F3 F3,w64 F3 F3]
   exact congrArg some F3
  have e:x / 65536 % 256=x / 2 ^ 16:=F3
  obtain ⟨L,t1,t2,t3,t4⟩:=p9 (x:=x / 2 ^ 16) F3 F3
  obtain ⟨t5,t6⟩:=t4 F3
  obtain ⟨t7,t8⟩:=Di h0 rfl t3 t5 t6
  refine ⟨16+L,?_,F3,t7,fun _=>⟨t8,F3⟩⟩
  rw [if_pos c1,if_neg c2,e,if_pos F3,if_pos F3,t1,w64 (x:=(L:Int)) F3 F3,w64 F3 F3]
  exact congrArg some F3
 by_cases c2:x>=256
 ·have e:x / 256 % 256=x / 2 ^ 8:=by omega
  obtain ⟨L,t1,t2,t3,t4⟩:=p9 (x:=x / 2 ^ 8) F3 F3
  obtain ⟨t5,t6⟩:=t4 F3
  obtain ⟨t7,t8⟩:=Di h0 rfl t3 t5 t6
  refine ⟨8+L,?_,F3,t7,fun _=>⟨t8,F3⟩⟩
  rw [if_neg c1,if_pos c2,e,if_pos F3,if_pos F3,t1,w64 (x:=(L:Int)) F3 F3,w64 F3 F3]
  exact congrArg some F3
 have e:x % 256=x:=F3
 obtain ⟨L,t1,t2,t3,t4⟩:=p9 (x:=x) F3 F3
 refine ⟨L,?_,F3,t3,t4⟩
 rw [if_neg c1,if_neg c2,e,if_pos F3,if_pos F3,t1,w64 (x:=(L:Int)) F3 F3,w64 F3 F3]
 exact congrArg some F3
theorem Eh {x:Int} (h0:0<=x) (h1:x<4294967296):∃ L:Nat,bits_LeadingZeros32.f x=some ((32-L:Nat):Int)/\L<=32/\x<2 ^ L/\(x≠0->2 ^ (L-1)<=x/\1<=L):=by
 obtain ⟨L,t1,t2,t3⟩:=len32_sp h0 h1
 refine ⟨L,?_,t2,t3⟩
 unfold bits_LeadingZeros32.f
 rw [t1,Option.bind_some,w64 F3 F3]
 exact congrArg some F3
theorem FD (w:Nat):WW ^ w=2 ^ (32*w):=by rw [Int.pow_mul];rfl
theorem wi (s:Nat):(2:Int) ^ s=WW ^ (s / 32)*2 ^ (s % 32):=by
 rw [FD,<- Int.pow_add];congr 1;omega
theorem rK {a:List Int} (h:0<a.length):vl WW a=vl WW (a.take (a.length-1))+rd a ((a.length:Int)-1)*WW ^ (a.length-1):=by
 have e:=cV WW a (a.length-1) F3
 rw [Nat.sub_add_cancel h,List.take_length] at e
 rw [e]
 congr 2
 congr 1
 omega
theorem rF {a:List Int} {n:Int} (hn:a.length<68719476736) (ha:Can WW a n):∃ b:Nat,fZ.f a=some (b:Int)/\b<=32*a.length/\(a.length=0->b=0)/\(n≠0->2 ^ (b-1)<=n/\n<2 ^ b/\1<=b/\32*(a.length-1)<b):=by
 unfold fZ.f
 by_cases c:a.length=0
 ·refine ⟨0,by rw [if_pos F3];rfl,F3,fun _=>rfl,fun h=>absurd ((ha.iU aO).1 c) h⟩
 have hx:=dB ha.1 ((a.length:Int)-1) F3 F3
 have hnz:=ha.2.1.rd F3
 rw [de] at hx
 obtain ⟨L,t1,t2,t3,t4⟩:=Eh hx.1 hx.2
 obtain ⟨t5,t6⟩:=t4 hnz
 refine ⟨32*a.length-(32-L),?_,F3,fun h=>absurd h c,fun _=>?_⟩
 ·rw [if_neg F3,w64 (x:=(a.length:Int)-1) F3 F3,if_pos F3,if_pos F3,t1,Option.bind_some,w64 (x:=32*(a.length:Int)) F3 F3,w64 F3 F3]
  congr 1
  omega
 have lv:=rK (a:=a) F3
 rw [ha.2.2] at lv
 have hd:=ha.1.take (a.length-1)
 have l0:=bK aO hd
 have l1:=gS aO hd
 rw [List.length_take,Nat.min_eq_left F3] at l1
 have hP:(0:Int)<WW ^ (a.length-1):=iu aO _
 generalize hr:rd a ((a.length:Int)-1)=r at *
 have e1:(2:Int) ^ (32*a.length-(32-L))=2 ^ L*WW ^ (a.length-1):=by rw [FD,<- Int.pow_add];congr 1;omega
 have e2:(2:Int) ^ (32*a.length-(32-L)-1)=2 ^ (L-1)*WW ^ (a.length-1):=by rw [FD,<- Int.pow_add];congr 1;omega
 have m1:(r+1)*WW ^ (a.length-1)<=2 ^ L*WW ^ (a.length-1):=Int.mul_le_mul_of_nonneg_right F3 F3
 have m2:2 ^ (L-1)*WW ^ (a.length-1)<=r*WW ^ (a.length-1):=Int.mul_le_mul_of_nonneg_right t5 F3
 rw [Int.add_mul] at m1
 rw [e1,e2]
 exact ⟨F3,F3,F3,F3⟩
theorem shl_p {x:Int} {p:Nat} (hp:p<32) (hx:0<=x/\x<4294967296):shl .u64 (IntKind.u64.wrap x) (p:Int)=x*2 ^ p/\0<=x*2 ^ p/\x*2 ^ p<4294967296*2 ^ p/\(2:Int) ^ p<=2147483648/\(1:Int)<=2 ^ p:=by
 have h1:(1:Int)<=2 ^ p:=by have:(0:Int)<2 ^ p:=Int.pow_pos (by decide);omega
 have h2:(2:Int) ^ p<=2 ^ 31:=by
  have:2 ^ p<=2 ^ 31:=Nat.pow_le_pow_right (by decide) F3
  exact_mod_cast this
 have h3:x*2 ^ p<4294967296*2 ^ p:=Int.mul_lt_mul_of_pos_right hx.2 F3
 have h4:0<=x*2 ^ p:=Int.mul_nonneg hx.1 F3
 refine ⟨?_,h4,h3,F3,h1⟩
 have hm:min p IntKind.u64.bits=p:=by
  have:IntKind.u64.bits=64:=rfl
  omega
 unfold shl
 rw [Int.toNat_natCast,hm,u64 (x:=x) F3 F3,u64 h4 F3]
theorem alg_shl {vo P old lo hi va x M W T Q:Int} (h:vo+old*P=va*M*T) (hy:lo+W*hi=x*M) (hP:P=T*Q):(vo+(old+lo)*P)+hi*(W*P)=(va+x*Q)*M*T:=by grind
theorem or_shl {x old:Int} {p:Nat} (hp:p<32) (hx:0<=x/\x<4294967296) (ho:0<=old/\old<2 ^ p):Go.bits .or .u32 old (x*2 ^ p % 4294967296)=old+x*2 ^ p % 4294967296:=by
 obtain ⟨_,h1,h2,h3,h4⟩:=shl_p hp hx
 have hd:x*2 ^ p % 4294967296 % 2 ^ p=0:=by
  have hdv:(2:Int) ^ p ∣ 4294967296:=by
   have:(4294967296:Int)=2 ^ p*2 ^ (32-p):=by rw [<- Int.pow_add,show p+(32-p)=32 by omega];rfl
   rw [this];exact Int.dvd_mul_right _ _
  rw [Int.emod_emod_of_dvd _ hdv,Int.mul_emod_left]
 rw [zS,bits_join .u32 32 (by decide) (fun n h0 h1=>by rw [IntKind.wrap_u32];omega) p _ _ F3 hd F3 ho.1 ho.2 F3]
 omega
theorem D2 {x old:Int} {p:Nat} (hp:p<32) (hx:0<=x/\x<4294967296) (ho:0<=old/\old<2 ^ p):old+x*2 ^ p % 4294967296<4294967296:=by
 have h:=(bits_within .or .u32 old (x*2 ^ p % 4294967296)).2
 rw [or_shl hp hx ho] at h
 have e:IntKind.u32.max=4294967295:=rfl
 rw [e] at h
 exact Int.lt_of_le_of_lt h (by decide)
theorem Cd {a:List Int} {w p:Nat} (hn:a.length+w<68719476736) (hp:p<32) (ha:Dg WW a) (d:Nat):∀ (i:Nat) (o:List Int),a.length-i=d->i<=a.length->o.length=a.length+w+1->Dg WW o->vl WW (o.take (i+w+1))=vl WW (a.take i)*2 ^ p*WW ^ w->rd o ((i+w:Nat):Int)<2 ^ p ->
 ∃ r,Ev (fun k=>eI.l0 k (w:Int) (p:Int) o a (a.length:Int) (i:Int)) r/\Can WW r (vl WW a*(WW ^ w*2 ^ p))/\r.length<=a.length+w+1:=by
 induction d with
 | zero =>
  intro i o h1 h2 h3 h4 h5 h6
  have ei:i=a.length:=F3
  subst ei
  rw [<- h3,List.take_length,List.take_length] at h5
  obtain ⟨r,r1,r2,r3⟩:=eL (l:=o) F3 h4
  rw [h5] at r2
  refine ⟨r,?_,by rw [Int.mul_comm (WW ^ w),<- Int.mul_assoc];exact r2,F3⟩
  refine Ev.step (fun k=>by rw [eI.l0]) ?_
  exact evn F3 (Ev.bind r1 (evs _))
 | succ d ih =>
  intro i o h1 h2 h3 h4 h5 h6
  have hx:=dB ha (i:Int) F3 F3
  have ho:=dB h4 ((i+w:Nat):Int) F3 F3
  rw [de] at hx ho
  obtain ⟨s2,s3,s4,s5⟩:=(shl_p hp hx).2
  have hy1:rd a (i:Int)*2 ^ p % 4294967296+WW*(rd a (i:Int)*2 ^ p / 4294967296)=rd a (i:Int)*2 ^ p:=by rw [de];exact Int.emod_add_mul_ediv _ _
  have hhi0:0<=rd a (i:Int)*2 ^ p / 4294967296:=F3
  have hhi1:rd a (i:Int)*2 ^ p / 4294967296<2 ^ p:=Int.ediv_lt_of_lt_mul F3 F3
  have hdv:=D2 hp hx ⟨ho.1,h6⟩
  generalize hlo:rd a (i:Int)*2 ^ p % 4294967296=lo at *
  generalize hhi:rd a (i:Int)*2 ^ p / 4294967296=hi at *
  have hlo0:0<=lo:=F3
  have d1:Dg WW (o.set (i+w) (rd o ((i+w:Nat):Int)+lo)):=h4.set _ F3 (by rw [de];omega)
  obtain ⟨r,r1,r2⟩:=ih (i+1) ((o.set (i+w) (rd o ((i+w:Nat):Int)+lo)).set (i+w+1) hi) F3 F3 (by simpa using h3)
   (d1.set _ hhi0 (by rw [de];omega))
   (by
    rw [show i+1+w+1=i+w+1+1 by omega,gR _ _ _ _ (by simp;omega),gR _ _ _ _ F3,cV WW a i F3,Int.pow_succ,Int.mul_comm (WW ^ (i+w)) WW]
    rw [cV WW o (i+w) F3] at h5
    exact alg_shl h5 hy1 (by rw [Int.pow_add,Int.mul_comm]))
   (by
    rw [show ((i+1+w:Nat):Int)=((i+w+1:Nat):Int) by omega]
    have:=vY (o.set (i+w) (rd o ((i+w:Nat):Int)+lo)) ((i+w+1:Nat):Int) hi (by simp;omega)
    rw [Int.toNat_natCast] at this
    rw [this]
    exact hhi1)
  refine ⟨r,?_,r2⟩
  refine Ev.step (fun k=>by rw [eI.l0]) ?_
  have e2:hi % 4294967296=hi:=F3
  rw [show (i:Int)+(w:Int)=((i+w:Nat):Int) by omega,w64 (x:=((i+w:Nat):Int)) F3 F3,gn (i:=i+w) F3,gn (i:=i) F3,Int.toNat_natCast,Int.toNat_natCast,(shl_p hp hx).1,hlo,hhi,e2]
  have so:=or_shl hp hx ⟨ho.1,h6⟩
  rw [hlo] at so
  rw [so]
  clear so
  exact evp F3 (evp F3 (evp F3 (evp F3 (evp F3 (evp F3 (evp F3 (evp F3 r1)))))))
theorem tJ {a:List Int} {n:Int} (s:Nat) (hn:a.length+s<68719476736) (ha:Can WW a n):∃ r,Ev (fun k=>eI.f k a (s:Int)) r/\Can WW r (n*2 ^ s)/\r.length<=a.length+s / 32+1:=by
 unfold eI.f
 by_cases c:a.length=0
 ·refine ⟨[],evp F3 (evs _),?_,F4⟩
  rw [(ha.iU aO).1 c,Int.zero_mul]
  exact Can.zero _
 obtain ⟨r,r1,r2,r3⟩:=Cd (a:=a) (w:=s / 32) (p:=s % 32) F3 F3 ha.1 a.length 0 (List.replicate (a.length+s / 32+1) 0) F3 F3 F4 (Dg.rep aO _)
  (by rw [List.take_replicate,zi,List.take_zero,vl];simp)
  (by
   have h1:(0:Int)<2 ^ (s % 32):=Int.pow_pos (by decide)
   have h2:rd (List.replicate (a.length+s / 32+1) (0:Int)) ((0+s / 32:Nat):Int)=0:=by
    rw [mC _ _ (by simp;omega)];simp
   rw [h2];exact h1)
 rw [<- wi,ha.2.2] at r2
 refine ⟨r,?_,r2,r3⟩
 have e1:wrap64 (Int.tdiv (s:Int) 32)=((s / 32:Nat):Int):=by rw [eT F3,w64 F3 F3];omega
 have e2:IntKind.u64.wrap (Int.tmod (s:Int) 32)=((s % 32:Nat):Int):=by rw [fg F3,u64 F3 F3];omega
 have e3:wrap64 (wrap64 ((a.length:Int)+((s / 32:Nat):Int))+1)=((a.length+s / 32+1:Nat):Int):=by rw [w64 (x:=(a.length:Int)+((s / 32:Nat):Int)) F3 F3,w64 F3 F3];omega
 rw [e1,e2,e3,Int.toNat_natCast]
 exact evn F3 (evp F3 (evp F3 r1))
theorem two_pos (p:Nat):(0:Int)<2 ^ p:=Int.pow_pos (by decide)
theorem shr_p {x:Int} {p:Nat} (hp:p<32):shr .u64 x (p:Int)=x / 2 ^ p:=by
 have hm:min p IntKind.u64.bits=p:=by
  have:IntKind.u64.bits=64:=rfl
  omega
 unfold shr
 rw [Int.toNat_natCast,hm]
theorem WW_split {p:Nat} (hp:p<32):WW=2 ^ p*2 ^ (32-p):=by rw [<- Int.pow_add,show p+(32-p)=32 by omega];rfl
theorem shr_word {x T t:Int} {p:Nat} (hp:p<32) (hx:0<=x/\x<WW) (ht:0<=t/\t<WW) (hT:∃ u,0<=u/\T=t+WW*u) :
 (t*WW+x) / 2 ^ p % WW+WW*(T / 2 ^ p)=(x+WW*T) / 2 ^ p/\0<=(t*WW+x) / 2 ^ p % WW/\(t*WW+x) / 2 ^ p % WW<WW:=by
 obtain ⟨u,hu,hT⟩:=hT
 have hM:=two_pos p
 have hW:=WW_split hp
 have hK:=two_pos (32-p)
 have hWp:=aO
 have hWe:=de
 generalize hMM:(2:Int) ^ p=M at *
 generalize hKK:(2:Int) ^ (32-p)=K at *
 refine ⟨?_,Int.emod_nonneg _ F3,Int.emod_lt_of_pos _ hWp⟩
 have d1:=Int.mul_ediv_add_emod t M
 have r0:=Int.emod_nonneg t (show M≠0 by omega)
 have r1:=Int.emod_lt_of_pos t hM
 generalize hq:t / M=q at *
 generalize hr:t % M=r at *
 clear hq hr
 have a1:t*WW+x=(x+WW*r)+M*(WW*q):=by rw [<- d1];grind
 have a2:T=r+M*(q+K*u):=by rw [hT,<- d1,hW];grind
 have a3:x+WW*T=(x+WW*r)+M*(WW*(q+K*u)):=by rw [a2];grind
 have lo:0<=x+WW*r:=by
  have:=Int.mul_nonneg (Int.le_of_lt hWp) r0
  omega
 have hi:x+WW*r<M*WW:=by
  have m:WW*(r+1)<=WW*M:=Int.mul_le_mul_of_nonneg_left F3 F3
  rw [Int.mul_add,Int.mul_comm WW M] at m
  omega
 rw [a1,a3,Int.add_mul_ediv_left _ _ F3,Int.add_mul_ediv_left _ _ F3]
 have e2:T / M=q+K*u:=by rw [a2,Int.add_mul_ediv_left _ _ F3,Int.ediv_eq_zero_of_lt r0 r1];omega
 rw [e2]
 have b0:0<=(x+WW*r) / M:=Int.ediv_nonneg lo F3
 have b1:(x+WW*r) / M<WW:=Int.ediv_lt_of_lt_mul hM (by rw [Int.mul_comm WW M];exact hi)
 rw [Int.add_mul_emod_self_left,Int.emod_eq_of_lt b0 b1]
theorem alg_shr {vo P d T W V T0:Int} (h:vo+P*T0=V) (h2:d+W*T=T0):(vo+d*P)+(P*W)*T=V:=by grind
theorem vl_dropd (a:List Int) (ha:Dg WW a) (i:Nat):∃ t,0<=t/\t<WW/\(∃ u,0<=u/\vl WW (a.drop i)=t+WW*u)/\(i<a.length->t=rd a (i:Int))/\(a.length<=i->t=0):=by
 by_cases c:i<a.length
 ·have hx:=dB ha (i:Int) F3 F3
  refine ⟨rd a (i:Int),hx.1,hx.2,⟨vl WW (a.drop (i+1)),bK aO (ha.drop _),by rw [eY a i c,vl]⟩,fun _=>rfl,fun h=>F3⟩
 exact ⟨0,by decide,by decide,⟨0,by decide,by rw [List.drop_eq_nil_of_le F3,vl];rfl⟩,fun h=>absurd h c,fun _=>rfl⟩
theorem Cc {a:List Int} {w p m:Nat} (hn:a.length<68719476736) (hw:w+m=a.length) (hp:p<32) (ha:Dg WW a) (d:Nat):∀ (i:Nat) (o:List Int),m-i=d->i<=m->o.length=m->Dg WW (o.take i)->vl WW (o.take i)+WW ^ i*(vl WW (a.drop (i+w)) / 2 ^ p)=vl WW (a.drop w) / 2 ^ p ->
 ∃ r,Ev (fun k=>eE.l0 k a (w:Int) (p:Int) o (m:Int) (i:Int)) r/\Can WW r (vl WW (a.drop w) / 2 ^ p)/\r.length<=m:=by
 induction d with
 | zero =>
  intro i o h1 h2 h3 h4 h5
  have ei:i=m:=F3
  subst ei
  rw [List.drop_eq_nil_of_le F3,vl,Int.zero_ediv,Int.mul_zero,Int.add_zero,<- h3,List.take_length] at h5
  rw [<- h3,List.take_length] at h4
  obtain ⟨r,r1,r2,r3⟩:=eL (l:=o) F3 h4
  rw [h5] at r2
  refine ⟨r,?_,r2,F3⟩
  refine Ev.step (fun k=>by rw [eE.l0]) ?_
  exact evn F3 (Ev.bind r1 (evs _))
 | succ d ih =>
  intro i o h1 h2 h3 h4 h5
  have hx:=dB ha ((i+w:Nat):Int) F3 F3
  obtain ⟨t,t0,t1,t2,t3,t4⟩:=vl_dropd a ha (i+w+1)
  obtain ⟨s1,s2,s3⟩:=shr_word hp hx ⟨t0,t1⟩ t2
  rw [eY a (i+w) F3,vl] at h5
  obtain ⟨r,r1,r2⟩:=ih (i+1) (o.set i ((t*WW+rd a ((i+w:Nat):Int)) / 2 ^ p % WW)) F3 F3 (by simpa using h3)
   (Dg.take_set F3 h4 s2 s3)
   (by
    rw [gR _ _ _ _ F3,show i+1+w=i+w+1 by omega,Int.pow_succ]
    exact alg_shr h5 s1)
  refine ⟨r,?_,r2⟩
  refine Ev.step (fun k=>by rw [eE.l0]) ?_
  rw [de] at hx t1
  rw [show (i:Int)+(w:Int)=((i+w:Nat):Int) by omega,w64 (x:=((i+w:Nat):Int)) F3 F3,gn (i:=i+w) F3,gn (i:=i) F3,Int.toNat_natCast]
  refine evp F3 (evp F3 (evp F3 ?_))
  by_cases c:i+w+1<a.length
  ·have e:=t3 c
   rw [<- e,u64 (x:=t) F3 F3,u64 (x:=rd a ((i+w:Nat):Int)) F3 F3,u64 (x:=t*4294967296) F3 F3,or64' ⟨t0,t1⟩ hx,shr_p (x:=t*4294967296+rd a ((i+w:Nat):Int)) hp]
   exact evp F3 (evp F3 (evp F3 (evp F3 (evp F3 r1))))
  have e:=t4 F3
  subst e
  rw [Int.zero_mul,Int.zero_add] at r1
  rw [u64 (x:=rd a ((i+w:Nat):Int)) F3 F3,shr_p (x:=rd a ((i+w:Nat):Int)) hp]
  exact evn F3 (evp F3 (evp F3 (evp F3 r1)))
theorem can_shr {a:List Int} {n:Int} (ha:Can WW a n) (s:Nat):(s / 32<a.length->n / 2 ^ s=vl WW (a.drop (s / 32)) / 2 ^ (s % 32))/\(a.length<=s / 32->n / 2 ^ s=0):=by
 have hP:=iu aO (s / 32)
 have hM:=two_pos (s % 32)
 rw [wi s]
 constructor
 ·intro h
  have hd:=gF WW a (s / 32) F3
  rw [ha.2.2] at hd
  have l0:=bK aO (ha.1.take (s / 32))
  have l1:=gS aO (ha.1.take (s / 32))
  rw [List.length_take,Nat.min_eq_left F3] at l1
  rw [hd,<- Int.ediv_ediv_of_nonneg F3,Int.add_mul_ediv_left _ _ F3,Int.ediv_eq_zero_of_lt l0 l1,Int.zero_add]
 intro h
 have h1:=ha.lt aO
 have h2:=eR (B:=WW) (by decide) h
 refine Int.ediv_eq_zero_of_lt (ha.fQ aO) ?_
 have h3:WW ^ (s / 32)*1<=WW ^ (s / 32)*2 ^ (s % 32):=Int.mul_le_mul_of_nonneg_left F3 F3
 omega
theorem oN {a:List Int} {n:Int} (s:Nat) (hn:a.length<68719476736) (hs:s<68719476736) (ha:Can WW a n):∃ r,Ev (fun k=>eE.f k a (s:Int)) r/\Can WW r (n / 2 ^ s)/\r.length<=a.length:=by
 obtain ⟨c1,c2⟩:=can_shr ha s
 have e1:wrap64 (Int.tdiv (s:Int) 32)=((s / 32:Nat):Int):=by rw [eT F3,w64 F3 F3];omega
 have e2:IntKind.u64.wrap (Int.tmod (s:Int) 32)=((s % 32:Nat):Int):=by rw [fg F3,u64 F3 F3];omega
 unfold eE.f
 rw [e1,e2]
 clear e1 e2
 by_cases c:a.length<=s / 32
 ·refine ⟨[],evp F3 (evs _),?_,F4⟩
  rw [c2 c]
  exact Can.zero _
 obtain ⟨r,r1,r2,r3⟩:=Cc (a:=a) (w:=s / 32) (p:=s % 32) (m:=a.length-s / 32) hn F3 F3 ha.1 (a.length-s / 32) 0 (List.replicate (a.length-s / 32) 0) F3 F3 F4 (by rw [List.take_zero];exact Dg.nil _)
  (by rw [List.take_zero,vl,Int.pow_zero,Nat.zero_add];omega)
 rw [<- c1 F3] at r2
 refine ⟨r,?_,r2,F3⟩
 rw [show (a.length:Int)-((s / 32:Nat):Int)=((a.length-s / 32:Nat):Int) by omega,w64 (x:=((a.length-s / 32:Nat):Int)) F3 F3,Int.toNat_natCast]
 refine evn F3 (evp F3 (evp F3 (evb rfl ?_)))
 rw [List.length_replicate]
 exact r1
theorem sub_step {o c b g x:Int} (ho:0<=o/\o<4294967296) (hc:0<=c/\c<4294967296) (hb:0<=b/\b<=1) (hg:0<=g/\g<4294967296) (hx:0<=x/\x<4294967296) :
 ∃ v c' b',IntKind.u64.wrap (c+IntKind.u64.wrap (g*IntKind.u64.wrap x)) / 4294967296=c'/\IntKind.u64.wrap (IntKind.u64.wrap (IntKind.u64.wrap o-IntKind.u64.wrap (c+IntKind.u64.wrap (g*IntKind.u64.wrap x)) % 4294967296)-b) % 4294967296=v/\IntKind.u64.wrap (IntKind.u64.wrap (IntKind.u64.wrap o-IntKind.u64.wrap (c+IntKind.u64.wrap (g*IntKind.u64.wrap x)) % 4294967296)-b) / 9223372036854775808=b'/\v-4294967296*(c'+b')=o-(c+b)-g*x/\0<=v/\v<4294967296/\0<=c'/\c'<4294967296/\0<=b'/\b'<=1:=by
 have hm:=wC hg hx
 rw [u64 (x:=x) F3 F3,u64 (x:=g*x) F3 F3,u64 (x:=c+g*x) F3 F3,u64 (x:=o) F3 F3,IntKind.wrap_u64,IntKind.wrap_u64]
 generalize g*x=t at *
 refine ⟨_,_,_,rfl,rfl,rfl,?_,?_,?_,?_,?_,?_,?_⟩<;>omega
theorem sub_last {o c b:Int} (ho:0<=o/\o<4294967296) (hc:0<=c/\c<4294967296) (hb:0<=b/\b<=1) :
 ∃ v f,IntKind.u64.wrap (IntKind.u64.wrap (IntKind.u64.wrap o-c)-b) % 4294967296=v/\(IntKind.u64.wrap (IntKind.u64.wrap (IntKind.u64.wrap o-c)-b) / 9223372036854775808==1)=f/\0<=v/\v<4294967296/\v=o-(c+b)+(if f=true then 4294967296 else 0):=by
 rw [u64 (x:=o) F3 F3,IntKind.wrap_u64,IntKind.wrap_u64]
 refine ⟨_,_,rfl,rfl,F3,F3,?_⟩
 simp only [beq_iff_eq]
 split<;>omega
theorem alg_s {vo c b P vu g vv v c' b' o x W:Int} (h:vo-(c+b)*P=vu-g*vv) (h2:v-W*(c'+b')=o-(c+b)-g*x):(vo+v*P)-(c'+b')*(W*P)=(vu+o*P)-g*(vv+x*P):=by grind
theorem alg_s2 {vo c b P vu g vv v o e W:Int} (h:vo-(c+b)*P=vu-g*vv) (h2:v=o-(c+b)+e):vo+v*P=(vu+o*P)-g*vv+e*P:=by grind
theorem rE {u v:List Int} {g:Int} (hl:u.length=v.length+1) (hn:v.length<68719476736) (hu:Dg WW u) (hv:Dg WW v) (hg:0<=g/\g<4294967296) (d:Nat):∀ (i:Nat) (o:List Int) (c b:Int),v.length-i=d->i<=v.length->o.length=u.length->Dg WW (o.take i)->o.drop i=u.drop i->0<=c->c<4294967296->0<=b->b<=1->vl WW (o.take i)-(c+b)*WW ^ i=vl WW (u.take i)-g*vl WW (v.take i) ->
 ∃ f r,Ev (fun k=>bQ.l0 k o v g c b v (v.length:Int) (i:Int)) (f,r)/\Dg WW r/\r.length=u.length/\vl WW r=vl WW u-g*vl WW v+(if f=true then WW ^ u.length else 0):=by
 induction d with
 | zero =>
  intro i o c b h1 h2 h3 h4 h5 h6 h7 h8 h9 h10
  have ei:i=v.length:=F3
  subst ei
  have ho:=dB hu (v.length:Int) F3 F3
  rw [de] at ho
  obtain ⟨z,f,e1,e2,z0,z1,z2⟩:=sub_last ho ⟨h6,h7⟩ ⟨h8,h9⟩
  have er:=jx u o v.length h5 F3 h3
  refine ⟨f,o.set v.length z,?_,?_,by simpa using h3,?_⟩
  ·refine Ev.step (fun k=>by rw [bQ.l0]) ?_
   refine evn F3 (evp F3 (evp F3 ?_))
   rw [er,e1,e2,Int.toNat_natCast]
   exact evs _
  ·have:=Dg.take_set (l:=o) (i:=v.length) (v:=z) F3 h4 z0 (by rw [de];exact z1)
   rw [List.take_of_length_le (by simp;omega)] at this
   exact this
  have e3:=gR WW o v.length z F3
  rw [List.take_of_length_le (by simp;omega)] at e3
  have e4:=cV WW u v.length F3
  rw [List.take_of_length_le F3] at e4
  rw [List.take_length] at h10
  rw [e3,e4,alg_s2 (W:=WW) h10 z2,hl,Int.pow_succ,Int.mul_comm (WW ^ v.length) WW]
  congr 1
  cases f
  ·simp
  simp
 | succ d ih =>
  intro i o c b h1 h2 h3 h4 h5 h6 h7 h8 h9 h10
  have ho:=dB hu (i:Int) F3 F3
  have hx:=dB hv (i:Int) F3 F3
  rw [de] at ho hx
  obtain ⟨z,c',b',e1,e2,e3,e4,z0,z1,c0,c1,b0,b1⟩:=sub_step ho ⟨h6,h7⟩ ⟨h8,h9⟩ hg hx
  have er:=jx u o i h5 F3 h3
  obtain ⟨f,r,r1,r2⟩:=ih (i+1) (o.set i z) c' b' F3 F3 (by simpa using h3) (Dg.take_set F3 h4 z0 (by rw [de];exact z1))
   (by rw [fL];exact drop_tail u o i h5) c0 c1 b0 b1
   (by
    rw [gR _ _ _ _ F3,cV WW u i F3,cV WW v i F3,Int.pow_succ,Int.mul_comm (WW ^ i) WW]
    exact alg_s h10 e4)
  refine ⟨f,r,?_,r2⟩
  refine Ev.step (fun k=>by rw [bQ.l0]) ?_
  rw [er,e1,e2,e3,gn (i:=i) F3,Int.toNat_natCast]
  clear e1 e2 e3
  exact evp F3 (evp F3 (evp F3 (evp F3 r1)))
theorem rD {u v:List Int} {g:Int} (hl:u.length=v.length+1) (hn:v.length<68719476736) (hu:Dg WW u) (hv:Dg WW v) (hg:0<=g/\g<4294967296) :
 ∃ f r,Ev (fun k=>bQ.f k u v g) (f,r)/\Dg WW r/\r.length=u.length/\vl WW r=vl WW u-g*vl WW v+(if f=true then WW ^ u.length else 0):=by
 obtain ⟨f,r,r1,r2⟩:=rE hl hn hu hv hg v.length 0 u 0 0 F3 F3 rfl (by rw [List.take_zero];exact Dg.nil _) rfl F3 F3 F3 F3 (by simp [vl])
 exact ⟨f,r,by unfold bQ.f;exact r1,r2⟩
theorem alg_r {vo c P vu vv v c' o x W:Int} (h:vo+c*P=vu+vv) (h2:v+W*c'=c+(o+x)):(vo+v*P)+c'*(W*P)=(vu+o*P)+(vv+x*P):=by grind
theorem alg_r2 {vo c P vu vv v o e W:Int} (h:vo+c*P=vu+vv) (h2:v+W*e=o+c):vo+v*P+e*(W*P)=(vu+o*P)+vv:=by grind
theorem sT {u v:List Int} (hl:u.length=v.length+1) (hn:v.length<68719476736) (hu:Dg WW u) (hv:Dg WW v) (d:Nat):∀ (i:Nat) (o:List Int) (c:Int),v.length-i=d->i<=v.length->o.length=u.length->Dg WW (o.take i)->o.drop i=u.drop i->0<=c->c<=1->vl WW (o.take i)+c*WW ^ i=vl WW (u.take i)+vl WW (v.take i) ->
 ∃ r e,Ev (fun k=>bV.l0 k o v c v (v.length:Int) (i:Int)) r/\Dg WW r/\r.length=u.length/\vl WW r+e*WW ^ u.length=vl WW u+vl WW v/\0<=e:=by
 induction d with
 | zero =>
  intro i o c h1 h2 h3 h4 h5 h6 h7 h8
  have ei:i=v.length:=F3
  subst ei
  have ho:=dB hu (v.length:Int) F3 F3
  rw [de] at ho
  have er:=jx u o v.length h5 F3 h3
  have ev:(rd u (v.length:Int)+c) % 4294967296+WW*((rd u (v.length:Int)+c) / 4294967296)=rd u (v.length:Int)+c:=by rw [de];exact Int.emod_add_mul_ediv _ _
  refine ⟨o.set v.length ((rd u (v.length:Int)+c) % 4294967296),(rd u (v.length:Int)+c) / 4294967296,?_,?_,by simpa using h3,?_,F3⟩
  ·have ec:c % 4294967296=c:=by omega
   refine Ev.step (fun k=>by rw [bV.l0]) ?_
   refine evn F3 (evp F3 (evp F3 ?_))
   rw [er,ec,Int.toNat_natCast]
   exact evs _
  ·have:=Dg.take_set (l:=o) (i:=v.length) (v:=(rd u (v.length:Int)+c) % 4294967296) F3 h4 F3 (by rw [de];omega)
   rw [List.take_of_length_le (by simp;omega)] at this
   exact this
  have e3:=gR WW o v.length ((rd u (v.length:Int)+c) % 4294967296) F3
  rw [List.take_of_length_le (by simp;omega)] at e3
  have e4:=cV WW u v.length F3
  rw [List.take_of_length_le F3] at e4
  rw [List.take_length] at h8
  rw [e3,e4,hl,Int.pow_succ,Int.mul_comm (WW ^ v.length) WW]
  exact alg_r2 h8 ev
 | succ d ih =>
  intro i o c h1 h2 h3 h4 h5 h6 h7 h8
  have ho:=dB hu (i:Int) F3 F3
  have hx:=dB hv (i:Int) F3 F3
  rw [de] at ho hx
  have er:=jx u o i h5 F3 h3
  have ev:(c+(rd u (i:Int)+rd v (i:Int))) % 4294967296+WW*((c+(rd u (i:Int)+rd v (i:Int))) / 4294967296)=c+(rd u (i:Int)+rd v (i:Int)):=by rw [de];exact Int.emod_add_mul_ediv _ _
  obtain ⟨r,e,r1,r2⟩:=ih (i+1) (o.set i ((c+(rd u (i:Int)+rd v (i:Int))) % 4294967296)) ((c+(rd u (i:Int)+rd v (i:Int))) / 4294967296) F3 F3 (by simpa using h3) (Dg.take_set F3 h4 F3 (by rw [de];omega))
   (by rw [fL];exact drop_tail u o i h5) F3 F3
   (by
    rw [gR _ _ _ _ F3,cV WW u i F3,cV WW v i F3,Int.pow_succ,Int.mul_comm (WW ^ i) WW]
    exact alg_r h8 ev)
  refine ⟨r,e,?_,r2⟩
  refine Ev.step (fun k=>by rw [bV.l0]) ?_
  rw [er,u64 (x:=rd u (i:Int)) F3 F3,u64 (x:=rd v (i:Int)) F3 F3,u64 (x:=rd u (i:Int)+rd v (i:Int)) F3 F3,u64 (x:=c+(rd u (i:Int)+rd v (i:Int))) F3 F3,gn (i:=i) F3,Int.toNat_natCast]
  exact evp F3 (evp F3 (evp F3 (evp F3 r1)))
theorem sS {u v:List Int} (hl:u.length=v.length+1) (hn:v.length<68719476736) (hu:Dg WW u) (hv:Dg WW v) :
 ∃ r e,Ev (fun k=>bV.f k u v) r/\Dg WW r/\r.length=u.length/\vl WW r+e*WW ^ u.length=vl WW u+vl WW v/\0<=e:=by
 obtain ⟨r,e,r1,r2⟩:=sT hl hn hu hv v.length 0 u 0 F3 F3 rfl (by rw [List.take_zero];exact Dg.nil _) rfl F3 F3 (by simp [vl])
 exact ⟨r,e,by unfold bV.f;exact r1,r2⟩
theorem kd_gt {X M P top next x0 high g rest qd W:Int} (hM:(top*W+next)*P<=M) (hX:X<(high*W+x0+1)*P) (hP:0<P) (hq:qd*M<=X) (h:g*top+rest=high) (hd:0<=g) (hM0:0<=M) (hne:g*next>rest*W+x0):qd<g:=by
 rcases Int.lt_or_le qd g with h1 | h1
 ·exact h1
 exfalso
 have a1:g*M<=qd*M:=Int.mul_le_mul_of_nonneg_right h1 hM0
 have a2:g*((top*W+next)*P)<=g*M:=Int.mul_le_mul_of_nonneg_left hM hd
 have a3:g*((top*W+next)*P)=(g*(top*W+next))*P:=by grind
 have a4:(g*(top*W+next))*P<(high*W+x0+1)*P:=F3
 have a5:=Int.lt_of_mul_lt_mul_right a4 (Int.le_of_lt hP)
 have a6:g*(top*W+next)=(high-rest)*W+g*next:=by rw [<- h];grind
 have a7:(high-rest)*W=high*W-rest*W:=by grind
 omega
theorem kd_le {X M P top next x0 high g rest qd W:Int} (hM:M<=(top*W+next+1)*P) (hM2:W*P<=M) (hX:(high*W+x0)*P<=X) (hP:0<P) (hq:X<(qd+1)*M) (h:g*top+rest=high) (hd:0<=g) (hg:g<W) (hE:g*next<=rest*W+x0):g<=qd+1:=by
 rcases Int.lt_or_le (qd+1) g with h1 | h1
 ·exfalso
  have hM0:0<=M:=by
   have:0<=W*P:=Int.mul_nonneg F3 F3
   omega
  have a1:(qd+1)*M<=(g-1)*M:=Int.mul_le_mul_of_nonneg_right F3 hM0
  have a2:g*M<=g*((top*W+next+1)*P):=Int.mul_le_mul_of_nonneg_left hM hd
  have a3:g*((top*W+next+1)*P)=(g*(top*W+next))*P+g*P:=by grind
  have a6:g*(top*W+next)=(high-rest)*W+g*next:=by rw [<- h];grind
  have a7:(high-rest)*W=high*W-rest*W:=by grind
  have a8:(g*(top*W+next))*P<=(high*W+x0)*P:=Int.mul_le_mul_of_nonneg_right F3 F3
  have a9:g*P<=W*P:=Int.mul_le_mul_of_nonneg_right F3 F3
  have a10:(g-1)*M=g*M-M:=by grind
  omega
 exact h1
theorem dm_guess {q v u:List Int} {s:Int} {nn j:Nat} {X M P top next x0 high qd:Int} (hn:j+nn<68719476736) (hnn:2<=nn) (hju:j+nn<u.length) (hx0:rd u ((j+nn-2:Nat):Int)=x0)
 (t0:0<top) (t1:top<4294967296) (n0:0<=next) (n1:next<4294967296) (b0:0<=x0) (b1:x0<4294967296)
 (hMl:(top*WW+next)*P<=M) (hMu:M<=(top*WW+next+1)*P) (hM2:WW*P<=M) (hXl:(high*WW+x0)*P<=X) (hXu:X<(high*WW+x0+1)*P) (hP:0<P) (hq:qd*M<=X) (hq2:X<(qd+1)*M) (hqW:qd<4294967296) (hq0:0<=qd) (c:Nat) :
 ∀ g rest:Int,(g-qd).toNat=c->g*top+rest=high->0<=rest->rest<4294967296->qd<=g->g<=4294967297->(g=4294967297->rest+top<4294967296) ->
 ∃ g',qd<=g'/\g'<=qd+1/\g'<4294967296/\∀ R,Ev (fun k=>aI.j3 k q s v u (nn:Int) top next (j:Int) g') R->Ev (fun k=>aI.l1 k q s v u (nn:Int) top next (j:Int) g rest) R:=by
 have hM0:0<=M:=by
  have:0<=WW*P:=Int.mul_nonneg (by decide) F3
  omega
 induction c with
 | zero =>
  intro g rest h1 h2 h3 h4 h5 h6 h7
  have eg:g=qd:=F3
  subst eg
  have hE:¬ (g*next>rest*WW+x0):=fun hne=>by
   have:=kd_gt hMl hXu hP hq h2 F3 hM0 hne
   omega
  refine ⟨g,F3,F3,hqW,fun R hR=>?_⟩
  have hp:=wC (x:=g) (y:=next) ⟨F3,hqW⟩ ⟨n0,n1⟩
  refine Ev.step (fun k=>by rw [aI.l1]) ?_
  rw [de] at hE
  rw [show (j:Int)+(nn:Int)=((j+nn:Nat):Int) by omega,w64 (x:=((j+nn:Nat):Int)) F3 F3,show ((j+nn:Nat):Int)-2=((j+nn-2:Nat):Int) by omega,w64 (x:=((j+nn-2:Nat):Int)) F3 F3,hx0,u64 (x:=g*next) F3 F3,u64 (x:=rest*4294967296) F3 F3,u64 (x:=x0) F3 F3,or64 ⟨h3,h4⟩ ⟨b0,b1⟩,decide_eq_false hE]
  refine evn F3 (evp F3 (evp F3 ?_))
  refine Ev.step (fun k=>by rw [aI.j2]) ?_
  exact evn F4 hR
 | succ c ih =>
  intro g rest h1 h2 h3 h4 h5 h6 h7
  have hgq:qd<g:=F3
  have down:(g>=4294967296∨g*next>rest*WW+x0)->∃ g',qd<=g'/\g'<=qd+1/\g'<4294967296/\∀ R,Ev (fun k=>aI.j3 k q s v u (nn:Int) top next (j:Int) g') R->Ev (fun k=>aI.j2 k q s v u (nn:Int) top next (j:Int) g rest true) R:=by
   intro hc
   by_cases c2:rest+top>=4294967296
   ·have e:(g-1)*top+(rest+top)=high:=by rw [<- h2];grind
    have hp:=wC (x:=g-1) (y:=next) ⟨F3,F3⟩ ⟨n0,n1⟩
    have hE:(g-1)*next<=(rest+top)*WW+x0:=by rw [de];omega
    refine ⟨g-1,F3,kd_le hMu hM2 hXl hP hq2 e F3 (by rw [de];omega) hE,F3,fun R hR=>?_⟩
    refine Ev.step (fun k=>by rw [aI.j2]) ?_
    rw [u64 (x:=rest+top) F3 F3,u64 (x:=g-1) F3 F3]
    exact evp rfl (evp c2 hR)
   have e:(g-1)*top+(rest+top)=high:=by rw [<- h2];grind
   obtain ⟨g',g1,g2,g3,g4⟩:=ih (g-1) (rest+top) F3 e F3 F3 F3 F3 F3
   refine ⟨g',g1,g2,g3,fun R hR=>?_⟩
   refine Ev.step (fun k=>by rw [aI.j2]) ?_
   rw [u64 (x:=rest+top) F3 F3,u64 (x:=g-1) F3 F3]
   exact evp rfl (evn c2 (g4 R hR))
  by_cases c1:g>=4294967296
  ·obtain ⟨g',g1,g2,g3,g4⟩:=down (.inl c1)
   refine ⟨g',g1,g2,g3,fun R hR=>?_⟩
   refine Ev.step (fun k=>by rw [aI.l1]) ?_
   exact evp c1 (g4 R hR)
  have hp:=wC (x:=g) (y:=next) ⟨F3,F3⟩ ⟨n0,n1⟩
  by_cases c2:g*next>rest*WW+x0
  ·obtain ⟨g',g1,g2,g3,g4⟩:=down (.inr c2)
   refine ⟨g',g1,g2,g3,fun R hR=>?_⟩
   refine Ev.step (fun k=>by rw [aI.l1]) ?_
   rw [de] at c2
   rw [show (j:Int)+(nn:Int)=((j+nn:Nat):Int) by omega,w64 (x:=((j+nn:Nat):Int)) F3 F3,show ((j+nn:Nat):Int)-2=((j+nn-2:Nat):Int) by omega,w64 (x:=((j+nn-2:Nat):Int)) F3 F3,hx0,u64 (x:=g*next) F3 F3,u64 (x:=rest*4294967296) F3 F3,u64 (x:=x0) F3 F3,or64 ⟨h3,h4⟩ ⟨b0,b1⟩,decide_eq_true c2]
   exact evn F3 (evp F3 (evp F3 (g4 R hR)))
  have hle:=kd_le hMu hM2 hXl hP hq2 h2 F3 (by rw [de];omega) F3
  refine ⟨g,F3,hle,F3,fun R hR=>?_⟩
  refine Ev.step (fun k=>by rw [aI.l1]) ?_
  rw [de] at c2
  rw [show (j:Int)+(nn:Int)=((j+nn:Nat):Int) by omega,w64 (x:=((j+nn:Nat):Int)) F3 F3,show ((j+nn:Nat):Int)-2=((j+nn-2:Nat):Int) by omega,w64 (x:=((j+nn-2:Nat):Int)) F3 F3,hx0,u64 (x:=g*next) F3 F3,u64 (x:=rest*4294967296) F3 F3,u64 (x:=x0) F3 F3,or64 ⟨h3,h4⟩ ⟨b0,b1⟩,decide_eq_false c2]
  refine evn F3 (evp F3 (evp F3 ?_))
  refine Ev.step (fun k=>by rw [aI.j2]) ?_
  exact evn F4 hR
theorem seg_len (u:List Int) (j n:Nat) (h:j+n<=u.length):((u.take (j+n)).drop j).length=n:=by
 rw [List.length_drop,List.length_take,Nat.min_eq_left h];omega
theorem Dl (u r:List Int) (j n:Nat) (h:j+n<=u.length) (hr:r.length=n) :
 ((u.take j++r++u.drop (j+n)).take (j+n)).drop j=r/\(u.take j++r++u.drop (j+n)).take j=u.take j/\(u.take j++r++u.drop (j+n)).drop (j+n)=u.drop (j+n)/\(u.take j++r++u.drop (j+n)).drop j=r++u.drop (j+n)/\(u.take j++r++u.drop (j+n)).length=u.length:=by
 have l1:(u.take j).length=j:=by rw [List.length_take,Nat.min_eq_left F3]
 have l2:(u.take j++r).length=j+n:=by rw [List.length_append,l1,hr]
 refine ⟨?_,?_,?_,?_,?_⟩
 ·rw [List.take_left' l2,List.drop_left' l1]
 ·rw [List.append_assoc,List.take_left' l1]
 ·rw [List.drop_left' l2]
 ·rw [List.append_assoc,List.drop_left' l1]
 rw [List.length_append,l2,List.length_drop];omega
theorem seg_vl (u:List Int) (j n:Nat) (h:j+n<=u.length):vl WW (u.drop j)=vl WW ((u.take (j+n)).drop j)+WW ^ n*vl WW (u.drop (j+n)):=by
 have e:=gF WW (u.drop j) n (by rw [List.length_drop];omega)
 rw [List.drop_drop] at e
 rw [e,List.drop_take,Nat.add_sub_cancel_left]
theorem dm_digit {q v u:List Int} {s top next:Int} {nn j:Nat} {X M qd g:Int} (hn:j+nn<68719476736) (hv:v.length=nn) (dv:Dg WW v) (eM:vl WW v=M) (hju:j+nn+1<=u.length) (hjq:j<q.length) (du:Dg WW u)
 (eX:vl WW (u.drop j)=X) (hz:vl WW (u.drop (j+(nn+1)))=0) (hq:qd*M<=X) (hq2:X<(qd+1)*M) (hqW:qd<4294967296) (hq0:0<=qd) (g1:qd<=g) (g2:g<=qd+1) (g3:g<4294967296) :
 ∃ u2,u2.length=u.length/\Dg WW u2/\u2.take j=u.take j/\vl WW (u2.drop j)=X-qd*M/\∀ R,Ev (fun k=>aI.l0 k (q.set j qd) s v u2 (nn:Int) top next ((j:Int)-1)) R->Ev (fun k=>aI.j3 k q s v u (nn:Int) top next (j:Int) g) R:=by
 have sl:=seg_len u j (nn+1) hju
 have sv:=seg_vl u j (nn+1) hju
 rw [hz,Int.mul_zero,Int.add_zero,eX] at sv
 have ds:Dg WW ((u.take (j+(nn+1))).drop j):=(du.take _).drop _
 obtain ⟨f,r,r1,r2,r3,r4⟩:=rD (u:=(u.take (j+(nn+1))).drop j) (v:=v) (g:=g) F3 F3 ds dv ⟨F3,g3⟩
 rw [sl] at r3 r4
 rw [<- sv,eM] at r4
 have b0:=bK aO r2
 have b1:=gS aO r2
 rw [r3] at b1
 obtain ⟨p1,p2,p3,p4,p5⟩:=Dl u r j (nn+1) hju r3
 have hb2:((((j+nn:Nat):Int)+1)).toNat=j+(nn+1):=F3
 have hsub:Ev (fun k=>cp.f k u (j:Int) (((j+nn:Nat):Int)+1) v g) (f,u.take j++r++u.drop (j+(nn+1))):=by
  unfold cp.f
  rw [hb2,Int.toNat_natCast]
  exact Ev.bind r1 (evs _)
 have eqd:qd % 4294967296=qd:=F3
 have hM1:(qd+1)*M=qd*M+M:=by grind
 have dall:∀ z:List Int,Dg WW z->Dg WW (u.take j++z++u.drop (j+(nn+1))):=fun z hz=>((du.take _).append hz).append (du.drop _)
 cases f
 ·have eg:g=qd:=by
   rcases Int.lt_or_le qd g with c | c
   ·exfalso
    have:g=qd+1:=F3
    subst this
    simp only [Bool.false_eq_true,if_false] at r4
    omega
   omega
  subst eg
  simp only [Bool.false_eq_true,if_false,Int.add_zero] at r4
  refine ⟨_,p5,dall r r2,p2,?_,fun R hR=>?_⟩
  ·rw [p4,gT,hz,Int.mul_zero,Int.add_zero,r4]
  refine Ev.step (fun k=>by rw [aI.j3]) ?_
  rw [show (j:Int)+(nn:Int)=((j+nn:Nat):Int) by omega,w64 (x:=((j+nn:Nat):Int)) F3 F3,w64 (x:=((j+nn:Nat):Int)+1) F3 F3,w64 (x:=(j:Int)-1) F3 F3,eqd,Int.toNat_natCast]
  exact evp F3 (evp F3 (evp F3 (Ev.bind hsub (evn F4 (evp F3 hR)))))
 simp only [if_true] at r4
 have eg:g=qd+1:=by
  rcases Int.lt_or_le qd g with c | c
  ·omega
  exfalso
  have:g=qd:=F3
  subst this
  omega
 subst eg
 rw [hM1] at r4
 obtain ⟨z,e,z1,z2,z3,z4,z5⟩:=sS (u:=r) (v:=v) F3 F3 r2 dv
 rw [r3,eM,r4] at z4
 rw [r3] at z3
 have c0:=bK aO z2
 have c1:=gS aO z2
 rw [z3] at c1
 have hMW:M<WW ^ (nn+1):=by
  have h1:=gS aO dv
  have h2:=eR (B:=WW) (by decide) (show nn<=nn+1 by omega)
  rw [hv,eM] at h1
  omega
 have hz3:vl WW z=X-qd*M:=by
  generalize WW ^ (nn+1)=Q at *
  have he:e=1:=by
   rcases Int.lt_or_le e 1 with c | c
   ·have:e=0:=by omega
    subst this
    omega
   rcases Int.lt_or_le 1 e with c' | c'
   ·have:2*Q<=e*Q:=Int.mul_le_mul_of_nonneg_right F3 F3
    omega
   omega
  subst he
  omega
 obtain ⟨t1,t2,t3,t4,t5⟩:=Dl u z j (nn+1) hju z3
 have hres:Ev (fun k=>cI.f k (u.take j++r++u.drop (j+(nn+1))) (j:Int) (((j+nn:Nat):Int)+1) v) (u.take j++z++u.drop (j+(nn+1))):=by
  unfold cI.f
  rw [hb2,Int.toNat_natCast,p1,p2,p3]
  exact Ev.bind z1 (evs _)
 refine ⟨_,t5,dall z z2,t2,?_,fun R hR=>?_⟩
 ·rw [t4,gT,hz,Int.mul_zero,Int.add_zero,hz3]
 refine Ev.step (fun k=>by rw [aI.j3]) ?_
 rw [show (j:Int)+(nn:Int)=((j+nn:Nat):Int) by omega,w64 (x:=((j+nn:Nat):Int)) F3 F3,w64 (x:=((j+nn:Nat):Int)+1) F3 F3,w64 (x:=(j:Int)-1) F3 F3,show qd+1-1=qd by omega,u64 (x:=qd) F3 F3,eqd,Int.toNat_natCast]
 exact evp F3 (evp F3 (evp F3 (Ev.bind hsub (evp rfl (Ev.bind hres (evp F3 hR))))))
theorem three {u:List Int} (du:Dg WW u) (j nn:Nat) (hnn:2<=nn) (hju:j+nn+1<=u.length) (hz:vl WW (u.drop (j+(nn+1)))=0) :
 ∃ low,0<=low/\low<WW ^ (nn-2)/\vl WW (u.drop j)=low+(((rd u ((j+nn:Nat):Int))*WW+rd u ((j+nn-1:Nat):Int))*WW+rd u ((j+nn-2:Nat):Int))*WW ^ (nn-2):=by
 have e:=gF WW (u.drop j) (nn-2) (by rw [List.length_drop];omega)
 rw [List.drop_drop] at e
 have d1:Dg WW ((u.drop j).take (nn-2)):=(du.drop _).take _
 have l1:=gS aO d1
 rw [List.length_take,List.length_drop,Nat.min_eq_left F3] at l1
 refine ⟨_,bK aO d1,l1,?_⟩
 rw [e,eY u (j+(nn-2)) F3,vl,eY u (j+(nn-2)+1) F3,vl,eY u (j+(nn-2)+1+1) F3,vl]
 rw [show j+(nn-2)+1+1+1=j+(nn+1) by omega,hz,show j+(nn-2)+1+1=j+nn by omega,show j+(nn-2)+1=j+nn-1 by omega,show j+(nn-2)=j+nn-2 by omega]
 grind
theorem two {v:List Int} (dv:Dg WW v) (nn:Nat) (hnn:2<=nn) (hv:v.length=nn) :
 ∃ low,0<=low/\low<WW ^ (nn-2)/\vl WW v=low+(rd v ((nn-1:Nat):Int)*WW+rd v ((nn-2:Nat):Int))*WW ^ (nn-2):=by
 have e:=gF WW v (nn-2) F3
 have d1:Dg WW (v.take (nn-2)):=dv.take _
 have l1:=gS aO d1
 rw [List.length_take,Nat.min_eq_left F3] at l1
 refine ⟨_,bK aO d1,l1,?_⟩
 rw [e,eY v (nn-2) F3,vl,eY v (nn-2+1) F3,vl]
 rw [show nn-2+1+1=nn by omega,List.drop_eq_nil_of_le F3,vl,show nn-2+1=nn-1 by omega]
 grind
theorem alg_inv {ut Pj X M W qd vq N vu:Int} (h1:vu=ut+Pj*X) (h2:vu+M*((Pj*W)*vq)=N):(ut+Pj*(X-qd*M))+M*(Pj*(qd+W*vq))=N:=by grind
theorem oQ {a b P:Int} (h:a*P<b*P) (hP:0<P):a<b:=Int.lt_of_mul_lt_mul_right h (Int.le_of_lt hP)
theorem dm_l0 {v:List Int} {s nn:Nat} {M top next N:Int} (hs:s<32) (hn2:2<=nn) (hv:v.length=nn) (dv:Dg WW v) (eM:vl WW v=M) (et:rd v ((nn-1:Nat):Int)=top) (en:rd v ((nn-2:Nat):Int)=next) (ht:2147483648<=top) (d:Nat) :
 ∀ (i:Nat) (q u:List Int),i=d->i+nn<=u.length->u.length<68719476736->q.length=u.length-nn->Dg WW u->Dg WW (q.drop i)->vl WW (u.drop i)<M->vl WW u+M*(WW ^ i*vl WW (q.drop i))=N ->
 ∃ q' r',Ev (fun k=>aI.l0 k q (s:Int) v u (nn:Int) top next ((i:Int)-1)) (q',r')/\Can WW q' (N / M)/\Can WW r' (N % M / 2 ^ s):=by
 have w0:(0:Int)<WW ^ (nn-2):=iu aO _
 have bt:=dB dv ((nn-1:Nat):Int) F3 F3
 have bn:=dB dv ((nn-2:Nat):Int) F3 F3
 rw [et,de] at bt
 rw [en,de] at bn
 obtain ⟨ml,ml0,ml1,hMe⟩:=two dv nn hn2 hv
 rw [et,en,eM] at hMe
 generalize hP:WW ^ (nn-2)=P at *
 have hMl:(top*WW+next)*P<=M:=F3
 have hMu':M<(top*WW+next+1)*P:=by rw [Int.add_mul _ 1 P,Int.one_mul];omega
 have hM2:WW*P<=M:=by
  have:WW*P<=(top*WW+next)*P:=Int.mul_le_mul_of_nonneg_right (by rw [de];omega) F3
  omega
 have hMpos:0<M:=by
  have:0<WW*P:=Int.mul_pos aO w0
  omega
 induction d with
 | zero =>
  rintro i q u rfl h1 h2 h3 h4 h5 h6 h7
  rw [List.drop_zero] at h5 h6 h7
  rw [Int.pow_zero,Int.one_mul] at h7
  have b0:=bK aO h4
  have e1:N / M=vl WW q:=by rw [<- h7,Int.add_mul_ediv_left _ _ F3,Int.ediv_eq_zero_of_lt b0 h6,Int.zero_add]
  have e2:N % M=vl WW u:=by rw [<- h7,Int.add_mul_emod_self_left,Int.emod_eq_of_lt b0 h6]
  obtain ⟨q',q1,q2,q3⟩:=eL (l:=q) F3 h5
  obtain ⟨x,x1,x2,x3⟩:=eL (l:=u) F3 h4
  obtain ⟨y,y1,y2,y3⟩:=oN s F3 F3 x2
  refine ⟨q',y,?_,by rw [e1];exact q2,by rw [e2];exact y2⟩
  refine Ev.step (fun k=>by rw [aI.l0]) ?_
  exact evn F3 (Ev.bind q1 (Ev.bind x1 (Ev.bind y1 (evs _))))
 | succ d ih =>
  rintro i q u rfl h1 h2 h3 h4 h5 h6 h7
  have u0:=dB h4 (d:Int) F3 F3
  have eX:vl WW (u.drop d)=rd u (d:Int)+WW*vl WW (u.drop (d+1)):=by rw [eY u d F3,vl]
  have nx:=bK aO (h4.drop (d+1))
  have hXM:vl WW (u.drop d)<WW*M:=by
   have:WW*(vl WW (u.drop (d+1))+1)<=WW*M:=Int.mul_le_mul_of_nonneg_left F3 (by decide)
   rw [Int.mul_add,Int.mul_one] at this
   omega
  have hX0:=bK aO (h4.drop d)
  have hMW:M<WW ^ nn:=by
   have:=gS aO dv
   rw [hv,eM] at this
   exact this
  have hz:vl WW (u.drop (d+(nn+1)))=0:=by
   have sv:=seg_vl u d (nn+1) F3
   have g0:=bK aO (h4.drop (d+(nn+1)))
   have g1:=bK aO ((h4.take (d+(nn+1))).drop d)
   rcases Int.lt_or_le 0 (vl WW (u.drop (d+(nn+1)))) with c | c
   ·exfalso
    have hp:(0:Int)<WW ^ (nn+1):=iu aO _
    have a1:WW ^ (nn+1)*1<=WW ^ (nn+1)*vl WW (u.drop (d+(nn+1))):=Int.mul_le_mul_of_nonneg_left F3 F3
    have a2:WW*M<WW*WW ^ nn:=Int.mul_lt_mul_of_pos_left hMW aO
    rw [Int.pow_succ,Int.mul_comm (WW ^ nn) WW] at a1 sv
    omega
   omega
  obtain ⟨lo,lo0,lo1,eZ⟩:=three h4 d nn hn2 F3 hz
  rw [hP] at eZ lo1
  have b2:=dB h4 ((d+nn:Nat):Int) F3 F3
  have b1:=dB h4 ((d+nn-1:Nat):Int) F3 F3
  have b0:=dB h4 ((d+nn-2:Nat):Int) F3 F3
  rw [de] at b2 b1 b0
  have hut:=gF WW u d F3
  generalize hX:vl WW (u.drop d)=X at *
  generalize hx2:rd u ((d+nn:Nat):Int)=x2 at *
  generalize hx1:rd u ((d+nn-1:Nat):Int)=x1 at *
  generalize hx0:rd u ((d+nn-2:Nat):Int)=x0 at *
  have hXl:((x2*WW+x1)*WW+x0)*P<=X:=F3
  have hXu:X<((x2*WW+x1)*WW+x0+1)*P:=by rw [Int.add_mul _ 1 P,Int.one_mul];omega
  have hq0:0<=X / M:=Int.ediv_nonneg hX0 F3
  have hqd:=Int.mul_ediv_add_emod X M
  have hqr:=Int.emod_nonneg X (show M≠0 by omega)
  have hqs:=Int.emod_lt_of_pos X hMpos
  have hq:X / M*M<=X:=by rw [Int.mul_comm];omega
  have hq2:X<(X / M+1)*M:=by rw [Int.add_mul,Int.one_mul,Int.mul_comm];omega
  have hqW:X / M<4294967296:=Int.ediv_lt_of_lt_mul hMpos (by rw [<- de];exact hXM)
  generalize hQ:X / M=qd at *
  have hhi:x2*WW+x1<=top*WW+next:=by
   have a1:((x2*WW+x1)*WW+x0)*P<(WW*(top*WW+next+1))*P:=by
    have:WW*M<WW*((top*WW+next+1)*P):=Int.mul_lt_mul_of_pos_left hMu' aO
    rw [Int.mul_assoc]
    omega
   have a2:=oQ a1 w0
   rw [de] at a2 ⊢
   omega
  have hh0:0<=x2*WW+x1:=by rw [de];omega
  have hor:=or64 b2 b1
  rw [<- de] at hor
  generalize hH:x2*WW+x1=high at *
  have d1:=Int.mul_ediv_add_emod high top
  have d2:=Int.emod_nonneg high (show top≠0 by omega)
  have d3:=Int.emod_lt_of_pos high (show 0<top by omega)
  have d0:0<=high / top:=Int.ediv_nonneg hh0 F3
  have gq:qd<=high / top:=by
   refine Int.le_ediv_of_mul_le F3 ?_
   have a1:qd*((top*WW+next)*P)<=qd*M:=Int.mul_le_mul_of_nonneg_left hMl hq0
   have a2:(qd*(top*WW+next))*P<(high*WW+x0+1)*P:=by rw [Int.mul_assoc];omega
   have a3:=oQ a2 w0
   have a4:qd*(top*WW+next)=(qd*top)*WW+qd*next:=by grind
   have a5:0<=qd*next:=Int.mul_nonneg hq0 bn.1
   rw [de] at a3 a4
   omega
  have gW:high / top<=4294967297/\(high / top=4294967297->high % top+top<4294967296):=by
   have a1:top*(high / top)<=top*WW+next:=F3
   constructor
   ·rcases Int.lt_or_le 4294967297 (high / top) with c | c
    ·exfalso
     have:top*4294967298<=top*(high / top):=Int.mul_le_mul_of_nonneg_left F3 F3
     rw [de] at a1
     omega
    exact c
   intro c
   rw [c] at d1
   rw [de] at hhi
   omega
  obtain ⟨g,g1,g2,g3,g4⟩:=dm_guess (q:=q) (v:=v) (u:=u) (s:=(s:Int)) (nn:=nn) (j:=d) (X:=X) (M:=M) (P:=P) (top:=top) (next:=next) (x0:=x0) (high:=high) (qd:=qd) F3 hn2 F3 hx0 F3 bt.2 bn.1 bn.2 b0.1 b0.2 hMl F3 hM2 hXl hXu w0 hq hq2 hqW hq0 _ (high / top) (high % top) rfl (by rw [Int.mul_comm];exact d1) d2 F3 gq gW.1 gW.2
  obtain ⟨u2,v1,v2,v3,v4,v5⟩:=dm_digit (q:=q) (v:=v) (u:=u) (s:=(s:Int)) (top:=top) (next:=next) (nn:=nn) (j:=d) (X:=X) (M:=M) (qd:=qd) (g:=g) F3 hv dv eM F3 F3 h4 hX hz hq hq2 hqW hq0 g1 g2 g3
  have hu2:=gF WW u2 d F3
  rw [v3,v4] at hu2
  obtain ⟨q',r',e1,e2⟩:=ih d (q.set d qd) u2 rfl F3 F3 (by rw [List.length_set,v1];exact h3) v2
   (by rw [eA _ _ _ F3];exact Dg.mk hq0 (by rw [de];exact hqW) h5)
   (by rw [v4];rw [Int.add_mul,Int.one_mul] at hq2;omega)
   (by
    rw [eA _ _ _ F3,vl,hu2]
    rw [Int.pow_succ] at h7
    exact alg_inv hut h7)
  refine ⟨q',r',?_,e2⟩
  refine Ev.step (fun k=>by rw [aI.l0]) ?_
  have hgu:high / top<18446744073709551616:=F3
  have fin:=g4 _ (v5 _ e1)
  rw [show (((d+1:Nat):Int)-1)=(d:Int) by omega,show (d:Int)+(nn:Int)=((d+nn:Nat):Int) by omega,w64 (x:=((d+nn:Nat):Int)) F3 F3,show ((d+nn:Nat):Int)-1=((d+nn-1:Nat):Int) by omega,w64 (x:=((d+nn-1:Nat):Int)) F3 F3,hx2,hx1,u64 (x:=x2) F3 F3,u64 (x:=x1) F3 F3,u64 (x:=x2*4294967296) F3 F3,<- de,hor,eT hh0,fg hh0,u64 (x:=high / top) d0 hgu]
  clear hor
  exact evp F3 (evp F3 (evp F3 (evp F3 (evp F3 (evn F3 fin)))))
theorem cpy_zero {t:List Int} {n:Nat} (h:t.length<=n) (dt:Dg WW t):(cpy (List.replicate n 0) t).length=n/\Dg WW (cpy (List.replicate n 0) t)/\vl WW (cpy (List.replicate n 0) t)=vl WW t:=by
 have e:cpy (List.replicate n 0) t=t++List.replicate (n-t.length) 0:=by
  unfold cpy
  rw [List.length_replicate,Nat.min_eq_left h,List.take_length,List.drop_replicate]
 rw [e]
 refine ⟨by simp;omega,dt.append (Dg.rep aO _),?_⟩
 rw [gT,zi,Int.mul_zero,Int.add_zero]
theorem two_le31 {s:Nat} (h:s<=31):(2:Int) ^ s<=2147483648:=by
 have h2:(2:Int) ^ s<=2 ^ 31:=by
  have:2 ^ s<=2 ^ 31:=Nat.pow_le_pow_right (by decide) h
  exact_mod_cast this
 exact Int.le_trans h2 (by decide)
theorem normed {b:List Int} {m:Int} {L:Nat} (hb:Can WW b m) (hp:0<b.length) (h1:rd b ((b.length:Int)-1)<2 ^ L) (h2:2 ^ (L-1)<=rd b ((b.length:Int)-1)) (hL:1<=L) (hL2:L<=32) :
 m*2 ^ (32-L)<WW ^ b.length/\2147483648*WW ^ (b.length-1)<=m*2 ^ (32-L):=by
 have lv:=rK (a:=b) hp
 rw [hb.2.2] at lv
 have hd:=hb.1.take (b.length-1)
 have l0:=bK aO hd
 have l1:=gS aO hd
 rw [List.length_take,Nat.min_eq_left F3] at l1
 have hP:(0:Int)<WW ^ (b.length-1):=iu aO _
 have hs:=two_pos (32-L)
 have e1:WW ^ b.length=(2 ^ L*WW ^ (b.length-1))*2 ^ (32-L):=by
  have:b.length=(b.length-1)+1:=F3
  rw [this,Int.pow_succ,Nat.add_sub_cancel,Int.mul_comm (2 ^ L),Int.mul_assoc,<- Int.pow_add,show L+(32-L)=32 by omega];rfl
 have e2:2147483648*WW ^ (b.length-1)=(2 ^ (L-1)*WW ^ (b.length-1))*2 ^ (32-L):=by
  rw [Int.mul_comm (2 ^ (L-1)),Int.mul_assoc,<- Int.pow_add,show L-1+(32-L)=31 by omega,Int.mul_comm];rfl
 generalize rd b ((b.length:Int)-1)=x at *
 have m1:(x+1)*WW ^ (b.length-1)<=2 ^ L*WW ^ (b.length-1):=Int.mul_le_mul_of_nonneg_right F3 F3
 have m2:2 ^ (L-1)*WW ^ (b.length-1)<=x*WW ^ (b.length-1):=Int.mul_le_mul_of_nonneg_right h2 F3
 rw [Int.add_mul] at m1
 rw [e1,e2]
 exact ⟨Int.mul_lt_mul_of_pos_right F3 hs,Int.mul_le_mul_of_nonneg_right F3 F3⟩
theorem jR {a b:List Int} {n m:Int} (hn:a.length<17179869184) (ha:Can WW a n) (hb:Can WW b m) (hm:0<m) :
 ∃ q r,Ev (fun k=>aI.f k a b) (q,r)/\Can WW q (n / m)/\Can WW r (n % m):=by
 have n0:=ha.fQ aO
 have lb:0<b.length:=by
  rcases Nat.eq_zero_or_pos b.length with c | c
  ·have:=(hb.iU aO).1 c
   omega
  exact c
 have hc:=oO F3 ha hb
 by_cases c1:n<m
 ·have e:fa n m = -1:=by unfold fa;rw [if_pos c1]
  rw [e] at hc
  refine ⟨[],a,?_,?_,?_⟩
  ·unfold aI.f
   refine Ev.bind hc (evp F3 (evp (by simp;omega) ?_))
   exact evs _
  ·rw [Int.ediv_eq_zero_of_lt n0 c1];exact Can.zero _
  rw [Int.emod_eq_of_lt n0 c1];exact ha
 have hcm:¬ fa n m<0:=by unfold fa;rw [if_neg c1];split<;>omega
 have hba:b.length<=a.length:=jG ha hb F3
 have bx:=dB hb.1 ((b.length:Int)-1) F3 F3
 have bz:=hb.2.1.rd lb
 rw [de] at bx
 by_cases c2:b.length=1
 ·have e1:m=rd b 0:=by
   have:=rK (a:=b) lb
   rw [hb.2.2,c2] at this
   simpa [vl] using this
  rw [c2] at bx
  have bx':0<=m/\m<4294967296:=by rw [e1];exact bx
  obtain ⟨q,q1,q2,q3⟩:=sU F3 ha (K:=m) ⟨F3,bx'.2⟩
  have r0:=Int.emod_nonneg n (show m≠0 by omega)
  have r1:=Int.emod_lt_of_pos n hm
  obtain ⟨r,r2,r3⟩:=fH (a:=n % m) r0 F3
  refine ⟨q,r,?_,q2,r3⟩
  unfold aI.f
  refine Ev.bind hc (evn hcm (evp F3 (evp F3 ?_)))
  rw [<- e1]
  refine Ev.bind q1 ?_
  rw [u64 (x:=n % m) F3 F3]
  exact Ev.bind r2 (evs _)
 obtain ⟨L,z1,z2,z3,z4⟩:=Eh bx.1 bx.2
 obtain ⟨z5,z6⟩:=z4 bz
 obtain ⟨M1,M2⟩:=normed hb lb z3 z5 z6 z2
 have hs:=two_pos (32-L)
 have hs31:=two_le31 (s:=32-L) F3
 obtain ⟨v,v1,v2,v3⟩:=tJ (32-L) F3 hb
 obtain ⟨t,t1,t2,t3⟩:=tJ (32-L) F3 ha
 have hvl:v.length=b.length:=by
  have h1:=v2.gC bH M1
  have h2:WW ^ (b.length-1)<=m*2 ^ (32-L):=by
   have:(0:Int)<WW ^ (b.length-1):=iu aO _
   omega
  have h3:=v2.len_ge bH h2
  omega
 have htop:2147483648<=rd v ((b.length-1:Nat):Int):=by
  have lv:=rK (a:=v) F3
  rw [v2.2.2,hvl,show (b.length:Int)-1=((b.length-1:Nat):Int) by omega] at lv
  have hd:=v2.1.take (b.length-1)
  have l1:=gS aO hd
  rw [List.length_take,Nat.min_eq_left F3] at l1
  have hP:(0:Int)<WW ^ (b.length-1):=iu aO _
  have h3:2147483648*WW ^ (b.length-1)<(rd v ((b.length-1:Nat):Int)+1)*WW ^ (b.length-1):=by
   rw [Int.add_mul];omega
  have:=oQ h3 hP
  omega
 obtain ⟨u1,u2,u3⟩:=cpy_zero (t:=t) (n:=a.length+1) F3 t2.1
 generalize hu:cpy (List.replicate (a.length+1) 0) t=u at *
 rw [t2.2.2] at u3
 have htl:=dB v2.1 ((b.length-1:Nat):Int) F3 F3
 have hnl:=dB v2.1 ((b.length-2:Nat):Int) F3 F3
 rw [de] at htl hnl
 have hlow:vl WW (u.drop (a.length+1-b.length))<m*2 ^ (32-L):=by
  rcases Int.lt_or_le (vl WW (u.drop (a.length+1-b.length))) (m*2 ^ (32-L)) with c | c
  ·exact c
  exfalso
  have hd:=gF WW u (a.length+1-b.length) F3
  rw [u3] at hd
  have l0:=bK aO (u2.take (a.length+1-b.length))
  have hPi:(0:Int)<WW ^ (a.length+1-b.length):=iu aO _
  have a1:WW ^ (a.length+1-b.length)*(2147483648*WW ^ (b.length-1))<=WW ^ (a.length+1-b.length)*vl WW (u.drop (a.length+1-b.length)):=Int.mul_le_mul_of_nonneg_left F3 F3
  have a2:WW ^ (a.length+1-b.length)*(2147483648*WW ^ (b.length-1))=2147483648*WW ^ a.length:=by
   rw [Int.mul_left_comm,<- Int.pow_add,show a.length+1-b.length+(b.length-1)=a.length by omega]
  have a3:n*2 ^ (32-L)<WW ^ a.length*2 ^ (32-L):=Int.mul_lt_mul_of_pos_right (ha.lt aO) hs
  have hPa:(0:Int)<WW ^ a.length:=iu aO _
  have a4:WW ^ a.length*2 ^ (32-L)<=WW ^ a.length*2147483648:=Int.mul_le_mul_of_nonneg_left hs31 F3
  omega
 obtain ⟨q,r,r1,r2,r3⟩:=dm_l0 (s:=32-L) (nn:=b.length) (v:=v) (N:=n*2 ^ (32-L)) F3 F3 hvl v2.1 v2.2.2 rfl rfl htop (a.length+1-b.length) (a.length+1-b.length) (List.replicate (a.length+1-b.length) 0) u rfl F3 F3 (by rw [List.length_replicate,u1]) u2
  (by rw [List.drop_eq_nil_of_le F4];exact Dg.nil _) hlow (by rw [List.drop_eq_nil_of_le F4,vl,Int.mul_zero,Int.mul_zero,Int.add_zero];exact u3)
 rw [Int.mul_ediv_mul_of_pos_left _ _ hs] at r2
 rw [Int.mul_comm n,Int.mul_comm m,Int.mul_emod_mul_of_pos _ _ hs,Int.mul_ediv_cancel_left _ F3] at r3
 refine ⟨q,r,?_,r2,r3⟩
 unfold aI.f
 refine Ev.bind hc (evn hcm (evn F3 ?_))
 rw [w64 (x:=(b.length:Int)-1) F3 F3,w64 (x:=(a.length:Int)+1) F3 F3]
 refine evp F3 (evp F3 (evb z1 (Ev.bind v1 (evp F3 (evp F3 (evb rfl (Ev.bind t1 ?_)))))))
 rw [show ((a.length:Int)+1).toNat=a.length+1 by omega,hu,List.length_replicate,hvl,show ((a.length+1:Nat):Int)-(b.length:Int)=((a.length+1-b.length:Nat):Int) by omega,w64 (x:=((a.length+1-b.length:Nat):Int)) F3 F3,w64 (x:=((a.length+1-b.length:Nat):Int)-1) F3 F3,show (b.length:Int)-1=((b.length-1:Nat):Int) by omega,show (b.length:Int)-2=((b.length-2:Nat):Int) by omega,w64 (x:=((b.length-1:Nat):Int)) F3 F3,w64 (x:=((b.length-2:Nat):Int)) F3 F3,u64 (x:=rd v ((b.length-1:Nat):Int)) F3 F3,u64 (x:=rd v ((b.length-2:Nat):Int)) F3 F3,Int.toNat_natCast]
 exact evp F3 (evp F3 (evp F3 (evp F3 (evp F3 (evp F3 r1)))))
theorem dg_wf {l:List Int} (h:∀ x∈l,(Lit.int .u32 x).wf=true):Dg WW l:=by
 intro x hx
 have h1:=h x hx
 have h2:IntKind.u32.min=0:=rfl
 have h3:IntKind.u32.max=4294967295:=rfl
 simp only [Lit.wf,Bool.and_eq_true,decide_eq_true_eq,h2,h3] at h1
 rw [de]
 omega
theorem xX {a:List Int} (hl:a.length<=4) (ha:Dg RR a) (d:Nat):∀ (i:Nat) (x:Int),i=d->i<=a.length->x=vl RR (a.drop i)->Ev (fun k=>aK.l0 k a x ((i:Int)-1)) (vl RR a,true):=by
 have bd:∀ i:Nat,i<=a.length->0<=vl RR (a.drop i)/\vl RR (a.drop i)<10000000000000000:=by
  intro i hi
  have h1:=gS bh (ha.drop i)
  have h2:=eR (B:=RR) (by decide) (show (a.drop i).length<=4 by rw [List.length_drop];omega)
  have h3:RR ^ 4=10000000000000000:=by decide
  exact ⟨bK bh (ha.drop i),F3⟩
 induction d with
 | zero =>
  rintro i x rfl h1 h2
  rw [List.drop_zero] at h2
  subst h2
  refine Ev.step (fun k=>by rw [aK.l0]) ?_
  exact evn F3 (evs _)
 | succ d ih =>
  rintro i x rfl h1 h2
  have hx:=dB ha (d:Int) F3 F3
  rw [eC] at hx
  have b1:=bd (d+1) F3
  have b0:=bd d F3
  have e:x*10000+rd a (d:Int)=vl RR (a.drop d):=by
   rw [h2,eY a d F3,vl,eC];omega
  have next:=ih d (x*10000+rd a (d:Int)) rfl F3 e
  refine Ev.step (fun k=>by rw [aK.l0]) ?_
  rw [show (((d+1:Nat):Int)-1)=(d:Int) by omega,w64 (x:=x*10000) F3 F3,w64 (x:=x*10000+rd a (d:Int)) F3 F3,w64 (x:=(d:Int)-1) F3 F3]
  exact evp F3 (evp F3 (evp F3 next))
theorem jL {a:List Int} {n:Int} (hl:a.length<4611686018427387904) (ha:Can RR a n):(a.length<=4->Ev (fun k=>aK.f k a) (n,true))/\(4<a.length->Ev (fun k=>aK.f k a) (0,false)):=by
 constructor
 ·intro h
  have:=xX h ha.1 a.length a.length 0 rfl (Nat.le_refl _) (by rw [List.drop_length];rfl)
  rw [ha.2.2] at this
  unfold aK.f
  rw [w64 (x:=(a.length:Int)-1) F3 F3]
  exact evn F3 this
 intro h
 unfold aK.f
 exact evp F3 (evs _)
theorem Az {r b:List Int} {x m:Int} (hr:r.length<34359738368) (hb:b.length<34359738368) (cr:Can RR r x) (cb:Can RR b m) (hm:0<m) (hx:x<m*10000) (c:Nat):∀ q:Int,(10000-q).toNat<=c->0<=q->q<=9999->m*q<=x->Ev (fun k=>aj.l3 k r b q) (x / m):=by
 have fin:∀ q:Int,0<=q->m*q<=x->x<m*(q+1)->x / m=q:=by
  intro q h0 h1 h2
  have d1:=Int.mul_ediv_add_emod x m
  have d2:=Int.emod_nonneg x (show m≠0 by omega)
  have d3:=Int.emod_lt_of_pos x hm
  have l1:m*q<m*(x / m+1):=by rw [Int.mul_add];omega
  have l2:m*(x / m)<m*(q+1):=F3
  have l3:=Int.lt_of_mul_lt_mul_left l1 (Int.le_of_lt hm)
  have l4:=Int.lt_of_mul_lt_mul_left l2 (Int.le_of_lt hm)
  omega
 induction c with
 | zero=>intro q h1 h2 h3 h4;omega
 | succ c ih =>
  intro q h1 h2 h3 h4
  refine Ev.step (fun k=>by rw [aj.l3]) ?_
  rw [w64 (x:=q+1) F3 F3]
  by_cases c1:q+1<10000
  ·obtain ⟨s,s1,s2,s3⟩:=iD (k0:=q+1) (c0:=0) F3 cb ⟨F3,F3⟩ ⟨F3,F3⟩
   rw [Int.add_zero] at s2
   have k1:=cU F3 s2 cr
   by_cases c2:m*(q+1)<=x
   ·refine evp c1 (Ev.bind s1 (Ev.bind k1 (evp ?_ (ih (q+1) F3 F3 F3 c2))))
    unfold fa;split<;>(try split)<;>omega
   rw [fin q h2 h4 F3]
   refine evp c1 (Ev.bind s1 (Ev.bind k1 (evn ?_ (evs _))))
   unfold fa;rw [if_neg F3,if_neg F3];omega
  have e:q=9999:=F3
  subst e
  rw [fin 9999 h2 h4 F3]
  exact evn c1 (evs _)
theorem digit_l2 {r b:List Int} {x m:Int} (hr:r.length<34359738368) (hb:b.length<34359738368) (cr:Can RR r x) (cb:Can RR b m) (hm:0<m) (hx:x<m*10000) (c:Nat):∀ q:Int,q.toNat<=c->0<=q->q<=9999->Ev (fun k=>aj.l2 k r b q) (x / m):=by
 have x0:=cr.fQ bh
 induction c with
 | zero =>
  intro q h1 h2 h3
  have e:q=0:=F3
  subst e
  obtain ⟨s,s1,s2,s3⟩:=iD (k0:=0) (c0:=0) F3 cb ⟨F3,F3⟩ ⟨F3,F3⟩
  rw [Int.add_zero,Int.mul_zero] at s2
  have k1:=cU F3 s2 cr
  refine Ev.step (fun k=>by rw [aj.l2]) ?_
  refine Ev.bind s1 (Ev.bind k1 (evn ?_ (Az hr hb cr cb hm hx _ 0 (Nat.le_refl _) F3 F3 F3)))
  unfold fa;split<;>(try split)<;>omega
 | succ c ih =>
  intro q h1 h2 h3
  obtain ⟨s,s1,s2,s3⟩:=iD (k0:=q) (c0:=0) F3 cb ⟨F3,F3⟩ ⟨F3,F3⟩
  rw [Int.add_zero] at s2
  have k1:=cU F3 s2 cr
  refine Ev.step (fun k=>by rw [aj.l2]) ?_
  rw [w64 (x:=q-1) F3 F3]
  by_cases c2:m*q<=x
  ·refine Ev.bind s1 (Ev.bind k1 (evn ?_ (Az hr hb cr cb hm hx _ q (Nat.le_refl _) h2 h3 c2)))
   unfold fa;split<;>(try split)<;>omega
  have hq:q≠0:=fun h=>by rw [h,Int.mul_zero] at c2;omega
  refine Ev.bind s1 (Ev.bind k1 (evp ?_ (ih (q-1) F3 F3 F3)))
  unfold fa;rw [if_neg F3,if_neg F3];omega
theorem AA {r b:List Int} {x m t low:Int} (hr:r.length<34359738368) (hb:b.length<34359738368) (cr:Can RR r x) (cb:Can RR b m) (hm:0<m) (hx:x<m*10000) (ht:0<=t/\t<4611686018427387904) (hl:0<low):Ev (fun k=>aj.j2 k r b t low) (x / m):=by
 have q0:0<=t / low:=Int.ediv_nonneg ht.1 F3
 have q1:t / low<=t:=Int.ediv_le_self _ ht.1
 refine Ev.step (fun k=>by rw [aj.j2]) ?_
 rw [eT ht.1,w64 (x:=t / low) F3 F3]
 refine evn F3 (digit_l2 hr hb cr cb hm hx _ _ (Nat.le_refl _) ?_ ?_)
 ·unfold mn;split<;>omega
 unfold mn;split<;>omega
theorem digit_l1 {r b:List Int} {x m t:Int} (hr:r.length<34359738368) (hb:b.length<34359738368) (cr:Can RR r x) (cb:Can RR b m) (hm:0<m) (hx:x<m*10000) (ht:0<=t/\t<4611686018427387904):Ev (fun k=>aj.l1 k r b (b.length:Int) t 0 ((b.length:Int)-1)) (x / m):=by
 have lb:b.length≠0:=fun h=>by have:=(cb.iU bh).1 h;omega
 have h1:=dB cb.1 ((b.length:Int)-1) F3 F3
 have z1:=cb.2.1.rd F3
 rw [eC] at h1
 by_cases c:b.length=1
 ·rw [c] at h1 z1
  have e0:((1:Nat):Int)-1=0:=F3
  rw [e0] at h1 z1
  have hj:=AA hr hb cr cb hm hx ht (low:=rd b 0) F3
  have em:mx 0 (wrap64 (((1:Nat):Int)-2))=0:=by rw [w64 F3 F3];unfold mx;split<;>omega
  refine Ev.step (fun k=>by rw [aj.l1]) ?_
  rw [c,em,e0,w64 (x:=0*10000) F3 F3,w64 (x:=0*10000+rd b 0) F3 F3,w64 (x:=0-1) F3 F3]
  refine evp F3 (evp F3 (evp F3 ?_))
  refine Ev.step (fun k=>by rw [aj.l1]) ?_
  rw [em]
  exact evn F3 (evp F3 (evp F3 hj))
 have h2:=dB cb.1 ((b.length:Int)-2) F3 F3
 rw [eC] at h2
 have em:mx 0 (wrap64 ((b.length:Int)-2))=(b.length:Int)-2:=by rw [w64 F3 F3];unfold mx;split<;>omega
 have hj:=AA hr hb cr cb hm hx ht (low:=(0*10000+rd b ((b.length:Int)-1))*10000+rd b ((b.length:Int)-2)) F3
 refine Ev.step (fun k=>by rw [aj.l1]) ?_
 rw [em,w64 (x:=0*10000) F3 F3,w64 (x:=0*10000+rd b ((b.length:Int)-1)) F3 F3,w64 (x:=(b.length:Int)-1-1) F3 F3,show (b.length:Int)-1-1=(b.length:Int)-2 by omega]
 refine evp F3 (evp F3 (evp F3 ?_))
 refine Ev.step (fun k=>by rw [aj.l1]) ?_
 rw [em,w64 (x:=(0*10000+rd b ((b.length:Int)-1))*10000) F3 F3,w64 (x:=(0*10000+rd b ((b.length:Int)-1))*10000+rd b ((b.length:Int)-2)) F3 F3,w64 (x:=(b.length:Int)-2-1) F3 F3]
 refine evp F3 (evp F3 (evp F3 ?_))
 refine Ev.step (fun k=>by rw [aj.l1]) ?_
 rw [em]
 exact evn F3 (evn F3 hj)
theorem digit_l0 {r b:List Int} {x m:Int} (hr:r.length<34359738368) (hb:b.length<34359738368) (cr:Can RR r x) (cb:Can RR b m) (hm:0<m) (hx:x<m*10000) (c:Nat):∀ (t i:Int),(i+1-mx 0 ((b.length:Int)-2)).toNat=c->-1<=i->i<=b.length->0<=t->t<10000 ^ (3-c)->c<=3->Ev (fun k=>aj.l0 k r b (b.length:Int) t 0 i) (x / m):=by
 have em:wrap64 ((b.length:Int)-2)=(b.length:Int)-2:=by rw [w64 F3 F3]
 have hlo:0<=mx 0 ((b.length:Int)-2):=by unfold mx;split<;>omega
 induction c with
 | zero =>
  intro t i h1 h2 h3 h4 h5 h6
  have:=digit_l1 hr hb cr cb hm hx (t:=t) ⟨h4,Int.lt_trans h5 (by decide)⟩
  refine Ev.step (fun k=>by rw [aj.l0]) ?_
  rw [em,w64 (x:=(b.length:Int)-1) F3 F3]
  exact evn F3 this
 | succ c ih =>
  intro t i h1 h2 h3 h4 h5 h6
  have hp:(10000:Int) ^ (3-(c+1))*10000=10000 ^ (3-c):=by
   rw [<- Int.pow_succ];congr 1;omega
  have hq:(10000:Int) ^ (3-c)<=10000 ^ 3:=eR (by decide) F3
  have hq3:(10000:Int) ^ 3=1000000000000:=by decide
  refine Ev.step (fun k=>by rw [aj.l0]) ?_
  rw [em,w64 (x:=t*10000) F3 F3,w64 (x:=i-1) F3 F3]
  refine evp F3 ?_
  by_cases c1:i<(r.length:Int)
  ·have hx':=dB cr.1 i F3 F3
   rw [eC] at hx'
   rw [w64 (x:=t*10000+rd r i) F3 F3]
   exact evp c1 (evp F3 (ih (t*10000+rd r i) (i-1) F3 F3 F3 F3 F3 F3))
  exact evn c1 (ih (t*10000) (i-1) F3 F3 F3 F3 F3 F3)
theorem BB {r b:List Int} {x m:Int} (hr:r.length<34359738368) (hb:b.length<34359738368) (cr:Can RR r x) (cb:Can RR b m) (hm:0<m) (hx:x<m*10000):Ev (fun k=>aj.f k r b) (x / m):=by
 unfold aj.f
 have hlo:(((b.length:Int)+1-mx 0 ((b.length:Int)-2)).toNat)<=3:=by unfold mx;split<;>omega
 exact digit_l0 hr hb cr cb hm hx _ 0 _ rfl F3 (Int.le_refl _) F3 (Int.pow_pos (by decide)) hlo
theorem alg_rd {x m q d a R va:Int} (h:x+m*q=va):(x*R+a-m*d)+m*(d+R*q)=a+R*va:=by grind
theorem r_dm_l0 {a b:List Int} {n m:Int} (hn:a.length<17179869184) (hb:b.length<17179869184) (ha:Can RR a n) (cb:Can RR b m) (hm:0<m) (d:Nat):∀ (i:Nat) (q r:List Int) (x:Int),i=d->i<=a.length->q.length=a.length->Dg RR (q.drop i)->Can RR r x->x<m->x+m*vl RR (q.drop i)=vl RR (a.drop i)->(∀ j:Nat,j<i->rd q (j:Int)=0) ->
 ∃ q' r',Ev (fun k=>aC.l0 k a b q r ((i:Int)-1)) (q',r')/\Can RR q' (n / m)/\Can RR r' (n % m)/\q'.length<=a.length:=by
 induction d with
 | zero =>
  rintro i q r x rfl h1 h2 h3 h4 h5 h6 h7
  rw [List.drop_zero,List.drop_zero,ha.2.2] at h6
  rw [List.drop_zero] at h3
  have x0:=h4.fQ bh
  obtain ⟨t,t1,t2,t3⟩:=kD (l:=q) F3 h3
  have e1:n / m=vl RR q:=by rw [<- h6,Int.add_mul_ediv_left _ _ F3,Int.ediv_eq_zero_of_lt x0 h5,Int.zero_add]
  have e2:n % m=x:=by rw [<- h6,Int.add_mul_emod_self_left,Int.emod_eq_of_lt x0 h5]
  refine ⟨t,r,?_,by rw [e1];exact t2,by rw [e2];exact h4,F3⟩
  refine Ev.step (fun k=>by rw [aC.l0]) ?_
  exact evn F3 (Ev.bind t1 (evs _))
 | succ d ih =>
  rintro i q r x rfl h1 h2 h3 h4 h5 h6 h7
  have hx:=dB ha.1 (d:Int) F3 F3
  rw [eC] at hx
  have x0:=h4.fQ bh
  have lr:=je cb h4 F3
  obtain ⟨t,t1,t2,t3⟩:=iD (k0:=10000) (c0:=rd a (d:Int)) F3 h4 ⟨F3,F3⟩ ⟨hx.1,F3⟩
  have k1:=cU F3 t2 cb
  by_cases c1:x*10000+rd a (d:Int)<m
  ·obtain ⟨q',r',e1,e2⟩:=ih d q t (x*10000+rd a (d:Int)) rfl F3 h2
    (by rw [eY q d F3];exact Dg.mk (by rw [h7 d F3];omega) (by rw [h7 d F3];decide) h3) t2 c1
    (by
     have:=alg_rd (R:=RR) (a:=rd a (d:Int)) (d:=0) h6
     rw [eY q d F3,eY a d F3,vl,vl,h7 d F3]
     rw [Int.mul_zero,Int.sub_zero] at this
     exact this) (fun j hj=>h7 j F3)
   refine ⟨q',r',?_,e2⟩
   refine Ev.step (fun k=>by rw [aC.l0]) ?_
   rw [show (((d+1:Nat):Int)-1)=(d:Int) by omega,w64 (x:=(d:Int)-1) F3 F3]
   refine evp F3 (evp F3 (evp F3 (Ev.bind t1 (Ev.bind k1 (evp ?_ e1)))))
   unfold fa;rw [if_pos c1];omega
  have d1:=Int.mul_ediv_add_emod (x*10000+rd a (d:Int)) m
  have d2:=Int.emod_nonneg (x*10000+rd a (d:Int)) (show m≠0 by omega)
  have d3:=Int.emod_lt_of_pos (x*10000+rd a (d:Int)) hm
  have hg:=BB (r:=t) (b:=b) F3 F3 t2 cb hm F3
  have g0:0<=(x*10000+rd a (d:Int)) / m:=Int.ediv_nonneg F3 F3
  have g1:(x*10000+rd a (d:Int)) / m<10000:=Int.ediv_lt_of_lt_mul hm F3
  generalize hG:(x*10000+rd a (d:Int)) / m=g at *
  obtain ⟨s,s1,s2,s3⟩:=iD (k0:=g) (c0:=0) F3 cb ⟨F3,F3⟩ ⟨F3,F3⟩
  rw [Int.add_zero] at s2
  obtain ⟨y,y1,y2,y3⟩:=zJ F3 t2 s2 F3
  have hs:=vY q (d:Int) g F3
  rw [Int.toNat_natCast] at hs
  obtain ⟨q',r',e1,e2⟩:=ih d (q.set d g) y (x*10000+rd a (d:Int)-m*g) rfl F3 (by simpa using h2)
   (by rw [eA _ _ _ F3];exact Dg.mk g0 (by rw [eC];exact g1) h3) y2 F3
   (by
    rw [eA _ _ _ F3,eY a d F3,vl,vl]
    exact alg_rd h6)
   (fun j hj=>by
    have:=DF q (d:Int) (j:Int) g F3
    rw [Int.toNat_natCast] at this
    rw [this]
    exact h7 j F3)
  refine ⟨q',r',?_,e2⟩
  refine Ev.step (fun k=>by rw [aC.l0]) ?_
  rw [show (((d+1:Nat):Int)-1)=(d:Int) by omega,w64 (x:=(d:Int)-1) F3 F3,Int.toNat_natCast]
  refine evp F3 (evp F3 (evp F3 (Ev.bind t1 (Ev.bind k1 (evn ?_ (Ev.bind hg (evp F3 (evb rfl ?_))))))))
  ·unfold fa;rw [if_neg c1];split<;>omega
  rw [hs]
  exact Ev.bind s1 (Ev.bind y1 e1)
theorem lJ {a:Int} (h0:0<=a) (h1:a<100000000000000000):∃ r,Ev (fun k=>aN.f k a) r/\Can RR r a:=by
 by_cases c:a<10000000000000
 ·exact r_Int_sp h0 c
 obtain ⟨r,h2,h3⟩:=zK a (a / 10000).toNat [a % 10000] (a / 10000) F3 F3 (by simp;omega) (Dg.mk F3 (by rw [eC];omega) (Dg.nil _)) (fun h=>F3) (by
  show a % 10000+RR*0+a / 10000*RR ^ 1=a
  rw [eC];omega)
 refine ⟨r,?_,h3⟩
 refine Ev.congr (fun k=>by rw [aN.f]) ?_
 refine Ev.step (fun k=>by rw [aN.l0]) ?_
 rw [fg h0,eT h0,w64 (x:=a / 10000) F3 F3]
 exact evp F3 (evp F4 h2)
theorem qP {a b:List Int} {n m:Int} (hn:a.length<1073741824) (hb:b.length<1073741824) (ha:Can RR a n) (cb:Can RR b m) (hm:0<m) :
 ∃ q r,Ev (fun k=>aC.f k a b) (q,r)/\Can RR q (n / m)/\Can RR r (n % m)/\q.length<1073741824/\r.length<1073741824:=by
 have n0:=ha.fQ bh
 have hc:=cU F3 ha cb
 have r0:=Int.emod_nonneg n (show m≠0 by omega)
 have r1:=Int.emod_lt_of_pos n hm
 have fin:∀ q r,Can RR q (n / m)->Can RR r (n % m)->q.length<1073741824/\r.length<1073741824:=by
  intro q r hq hr
  have l1:=je ha hq (Int.ediv_le_self _ n0)
  have l2:=je cb hr F3
  omega
 have key:∃ q r,Ev (fun k=>aC.f k a b) (q,r)/\Can RR q (n / m)/\Can RR r (n % m):=by
  by_cases c1:n<m
  ·refine ⟨[],a,?_,by rw [Int.ediv_eq_zero_of_lt n0 c1];exact Can.zero _,by rw [Int.emod_eq_of_lt n0 c1];exact ha⟩
   unfold aC.f
   refine Ev.bind hc (evp ?_ (evs _))
   unfold fa;rw [if_pos c1];omega
  have hcm:¬ fa n m<0:=by unfold fa;rw [if_neg c1];split<;>omega
  have lba:=je ha cb F3
  obtain ⟨la1,la2⟩:=jL F3 ha
  obtain ⟨lb1,lb2⟩:=jL F3 cb
  by_cases c2:a.length<=4
  ·have hlt:=ha.lt bh
   have h4:=eR (B:=RR) (by decide) c2
   have h5:RR ^ 4=10000000000000000:=by decide
   have q0:0<=n / m:=Int.ediv_nonneg n0 F3
   have q1:n / m<=n:=Int.ediv_le_self _ n0
   obtain ⟨x,x1,x2⟩:=lJ (a:=n / m) q0 F3
   obtain ⟨y,y1,y2⟩:=lJ (a:=n % m) r0 F3
   refine ⟨x,y,?_,x2,y2⟩
   unfold aC.f
   refine Ev.bind hc (evn hcm (Ev.bind (la1 c2) (evp rfl (Ev.bind (lb1 F3) (evn (show ¬ m=0 by omega) ?_)))))
   rw [eT n0,fg n0,w64 (x:=n / m) F3 F3]
   exact Ev.bind x1 (Ev.bind y1 (evs _))
  by_cases c3:b.length=1
  ·have hx:=dB cb.1 0 F3 F3
   rw [eC] at hx
   have em:m=rd b 0:=by
    have e:=cV RR b 0 F3
    rw [show 0+1=b.length by omega,List.take_length,cb.2.2] at e
    simpa [vl] using e
   obtain ⟨q,q1,q2,q3⟩:=tB F3 ha (K:=m) ⟨F3,F3⟩
   obtain ⟨y,y1,y2⟩:=lJ (a:=n % m) r0 F3
   refine ⟨q,y,?_,q2,y2⟩
   unfold aC.f
   refine Ev.bind hc (evn hcm (Ev.bind (la2 F3) (evn F4 (evp F3 (evp F3 ?_)))))
   rw [<- em]
   exact Ev.bind q1 (Ev.bind y1 (evs _))
  obtain ⟨q,r,e1,e2,e3,e4⟩:=r_dm_l0 F3 F3 ha cb hm a.length a.length (List.replicate a.length 0) [] 0 rfl (Nat.le_refl _) F4 (by rw [List.drop_eq_nil_of_le F4];exact Dg.nil _) (Can.zero _) hm (by rw [List.drop_eq_nil_of_le F4,List.drop_length];simp [vl]) (fun j hj=>by rw [mC _ _ (by simpa using hj)];simp)
  refine ⟨q,r,?_,e2,e3⟩
  unfold aC.f
  refine Ev.bind hc (evn hcm (Ev.bind (la2 F3) (evn F4 (evn F3 (evp F3 (evp F3 ?_))))))
  rw [w64 (x:=(a.length:Int)-1) F3 F3,Int.toNat_natCast]
  exact e1
 obtain ⟨q,r,e1,e2,e3⟩:=key
 exact ⟨q,r,e1,e2,e3,fin q r e2 e3⟩
def gI (a b:Int):Int:=((Int.gcd a b:Nat):Int)
theorem gI_comm (a b:Int):gI a b=gI b a:=by unfold gI;rw [Int.gcd_comm]
theorem uU {a:Int} (h:0<=a):gI a 0=a:=by
 unfold gI
 rw [Int.gcd_zero_right]
 omega
theorem gI_sub (a b k:Int):gI b (a-k*b)=gI a b:=by
 unfold gI
 rw [Int.gcd_sub_mul_right_right,Int.gcd_comm]
theorem wV (a b:Int):gI b (a % b)=gI a b:=by
 rw [Int.emod_def,Int.mul_comm b]
 exact gI_sub a b (a / b)
theorem gI_le {a b:Int} (h:0<b):gI a b<=b:=by
 unfold gI
 exact Int.le_of_dvd h (Int.gcd_dvd_right a b)
theorem r_gcd_l1 (c:Nat):∀ x y:Int,y.toNat=c->0<=x->x<100000000000000000->0<=y->y<100000000000000000->∃ r,Ev (fun k=>ay.l1 k x y) r/\Can RR r (gI x y):=by
 induction c using Nat.strongRecOn with
 | _ c ih =>
  intro x y hc x0 x1 y0 y1
  by_cases c1:y>0
  ·have m0:=Int.emod_nonneg x (show y≠0 by omega)
   have m1:=Int.emod_lt_of_pos x c1
   obtain ⟨r,r1,r2⟩:=ih (x % y).toNat F3 y (x % y) rfl y0 y1 m0 F3
   rw [wV] at r2
   refine ⟨r,?_,r2⟩
   refine Ev.step (fun k=>by rw [ay.l1]) ?_
   rw [fg x0]
   exact evp c1 (evn F3 r1)
  have e:y=0:=F3
  subst e
  obtain ⟨r,r1,r2⟩:=lJ x0 x1
  rw [uU x0]
  refine ⟨r,?_,r2⟩
  refine Ev.step (fun k=>by rw [ay.l1]) ?_
  exact evn F3 (Ev.bind r1 (evs _))
theorem r_gcd_l0 (c:Nat):∀ (a b:List Int) (n m:Int),m.toNat=c->a.length<1073741824->b.length<1073741824->Can RR a n->Can RR b m->∃ r,Ev (fun k=>ay.l0 k a b) r/\Can RR r (gI n m):=by
 induction c using Nat.strongRecOn with
 | _ c ih =>
  intro a b n m hc la lb ha hb
  have n0:=ha.fQ bh
  have m0:=hb.fQ bh
  have hz:=hb.iU bh
  by_cases c1:m=0
  ·have e:=hz.2 c1
   rw [c1,uU n0]
   refine ⟨a,?_,ha⟩
   refine Ev.step (fun k=>by rw [ay.l0]) ?_
   exact evn F3 (evs _)
  have e:b.length≠0:=fun h=>c1 (hz.1 h)
  have mp:0<m:=F3
  obtain ⟨la1,la2⟩:=jL F3 ha
  obtain ⟨lb1,lb2⟩:=jL F3 hb
  have h5:RR ^ 4=10000000000000000:=by decide
  have slow:∀ x y,∃ r,Ev (fun k=>ay.j1 k a b x y false) r/\Can RR r (gI n m):=by
   intro x y
   have r0:=Int.emod_nonneg n (show m≠0 by omega)
   have r1:=Int.emod_lt_of_pos n mp
   obtain ⟨q,r,d1,d2,d3,d4,d5⟩:=qP la lb ha hb mp
   obtain ⟨z,z1,z2⟩:=ih (n % m).toNat F3 b r m (n % m) rfl lb d5 hb d3
   rw [wV] at z2
   refine ⟨z,?_,z2⟩
   refine Ev.step (fun k=>by rw [ay.j1]) ?_
   exact evn F4 (Ev.bind d1 z1)
  by_cases c2:a.length<=4
  ·by_cases c3:b.length<=4
   ·have hlt:=ha.lt bh
    have h4:=eR (B:=RR) (by decide) c2
    have hlt':=hb.lt bh
    have h4':=eR (B:=RR) (by decide) c3
    obtain ⟨z,z1,z2⟩:=r_gcd_l1 _ n m rfl n0 F3 m0 F3
    refine ⟨z,?_,z2⟩
    refine Ev.step (fun k=>by rw [ay.l0]) ?_
    refine evp F3 (Ev.bind (la1 c2) (Ev.bind (lb1 c3) (evp rfl ?_)))
    refine Ev.step (fun k=>by rw [ay.j1]) ?_
    exact evp rfl z1
   obtain ⟨z,z1,z2⟩:=slow n 0
   refine ⟨z,?_,z2⟩
   refine Ev.step (fun k=>by rw [ay.l0]) ?_
   exact evp F3 (Ev.bind (la1 c2) (Ev.bind (lb2 F3) (evp rfl z1)))
  by_cases c3:b.length<=4
  ·obtain ⟨z,z1,z2⟩:=slow 0 m
   refine ⟨z,?_,z2⟩
   refine Ev.step (fun k=>by rw [ay.l0]) ?_
   exact evp F3 (Ev.bind (la2 F3) (Ev.bind (lb1 c3) (evn F4 z1)))
  obtain ⟨z,z1,z2⟩:=slow 0 0
  refine ⟨z,?_,z2⟩
  refine Ev.step (fun k=>by rw [ay.l0]) ?_
  exact evp F3 (Ev.bind (la2 F3) (Ev.bind (lb2 F3) (evn F4 z1)))
theorem r_GCD_sp {a b:List Int} {n m:Int} (la:a.length<1073741824) (lb:b.length<1073741824) (ha:Can RR a n) (hb:Can RR b m):∃ r,Ev (fun k=>ay.f k a b) r/\Can RR r (gI n m):=by
 unfold ay.f
 exact r_gcd_l0 _ a b n m rfl la lb ha hb
theorem ix {r:List Int} {v:Int} (hr:Can WW r v) (hl:r.length<=2):dM.f r=some (v,true):=by
 unfold dM.f
 by_cases c:r.length=0
 ·rw [(hr.iU aO).1 c,if_pos F3]
 have e:=rK (a:=r) F3
 have v0:=hr.fQ aO
 have h0:=dB hr.1 0 F3 F3
 rw [de] at h0
 rw [hr.2.2] at e
 by_cases h1:r.length=1
 ·rw [h1] at e
  have e2:v=rd r 0:=by simpa [vl] using e
  rw [if_neg F3,if_pos F3,if_pos F3,<- e2,u64 (x:=v) F3 F3]
 have h2:r.length=2:=F3
 have hx:=dB hr.1 1 F3 F3
 rw [de] at hx
 have e3:=cV WW r 0 F3
 have e4:v=rd r 1*4294967296+rd r 0:=by
  rw [h2] at e
  have f1:((2:Nat):Int)-1=1:=rfl
  have f2:(2:Nat)-1=0+1:=rfl
  rw [f1,f2,e3,de,List.take_zero] at e
  simp only [vl] at e
  rw [e]
  have f3:((0:Nat):Int)=0:=rfl
  have f4:(4294967296:Int) ^ 0=1:=rfl
  have f5:(4294967296:Int) ^ (0+1)=4294967296:=rfl
  rw [f3,f4,f5]
  omega
 rw [if_neg F3,if_neg F3,if_pos F3,if_pos F3,if_pos F3,u64 (x:=rd r 1) F3 F3,u64 (x:=rd r 0) F3 F3,u64 (x:=rd r 1*4294967296) F3 F3,or64 hx h0,e4]
theorem Fy {n m p q:Int}:m*q-n*(-p)=p*n+q*m:=by grind
theorem Fx {n m p q:Int}:n*p-m*(-q)=p*n+q*m:=by grind
theorem tW {a b:List Int} {n m p q:Int} (la:a.length<1073741824) (lb:b.length<1073741824) (ha:Can WW a n) (hb:Can WW b m) (hs:(0<=p/\q<=0)∨(p<=0/\0<=q))
 (hp:-4611686018427387904<=p/\p<=4611686018427387904) (hq:-4611686018427387904<=q/\q<=4611686018427387904) (h:0<=p*n+q*m):∃ r,Ev (fun k=>bW.f k a b p q) r/\Can WW r (p*n+q*m):=by
 have hW2:WW ^ 2=18446744073709551616:=by decide
 have pos:p<=0->0<=q->∃ r,Ev (fun k=>bW.j0 k a b p q true) r/\Can WW r (p*n+q*m):=by
  intro p0 q0
  obtain ⟨t,t1,t2⟩:=fH (a:=q) q0 F3
  have t3:=t2.gC (k:=2) bH F3
  obtain ⟨x,x1,x2,x3⟩:=jz F3 hb t2
  obtain ⟨s,s1,s2⟩:=fH (a:=-p) F3 F3
  have s3:=s2.gC (k:=2) bH F3
  obtain ⟨y,y1,y2,y3⟩:=jz F3 ha s2
  rw [<- Fy] at h
  obtain ⟨z,z1,z2,z3⟩:=oM F3 x2 y2 F3
  rw [Fy] at z2
  refine ⟨z,?_,z2⟩
  refine Ev.step (fun k=>by rw [bW.j0]) ?_
  rw [w64 (x:=-p) F3 F3,u64 (x:=-p) F3 F3,u64 (x:=q) F3 F3]
  exact evp rfl (Ev.bind t1 (Ev.bind x1 (Ev.bind s1 (Ev.bind y1 (Ev.bind z1 (evs _))))))
 have neg:0<=p->q<=0->∃ r,Ev (fun k=>bW.j0 k a b p q false) r/\Can WW r (p*n+q*m):=by
  intro p0 q0
  obtain ⟨t,t1,t2⟩:=fH (a:=p) p0 F3
  have t3:=t2.gC (k:=2) bH F3
  obtain ⟨x,x1,x2,x3⟩:=jz F3 ha t2
  obtain ⟨s,s1,s2⟩:=fH (a:=-q) F3 F3
  have s3:=s2.gC (k:=2) bH F3
  obtain ⟨y,y1,y2,y3⟩:=jz F3 hb s2
  rw [<- Fx] at h
  obtain ⟨z,z1,z2,z3⟩:=oM F3 x2 y2 F3
  rw [Fx] at z2
  refine ⟨z,?_,z2⟩
  refine Ev.step (fun k=>by rw [bW.j0]) ?_
  rw [w64 (x:=-q) F3 F3,u64 (x:=-q) F3 F3,u64 (x:=p) F3 F3]
  exact evn F4 (Ev.bind t1 (Ev.bind x1 (Ev.bind s1 (Ev.bind y1 (Ev.bind z1 (evs _))))))
 unfold bW.f
 by_cases c1:p<0
 ·obtain ⟨r,r1,r2⟩:=pos F3 F3
  exact ⟨r,evp c1 r1,r2⟩
 by_cases c2:q>0
 ·obtain ⟨r,r1,r2⟩:=pos F3 F3
  rw [decide_eq_true c2]
  exact ⟨r,evn c1 r1,r2⟩
 obtain ⟨r,r1,r2⟩:=neg F3 F3
 rw [decide_eq_false c2]
 exact ⟨r,evn c1 r1,r2⟩
theorem alg_lin1 {p q x y T a b d:Int}:p*(T*x+a)+q*(T*y+b)=T*(p*x+q*y+q)+p*a+(q*b-q*T):=by grind
theorem alg_lin2 {p q x y T a b d:Int}:p*(T*x+a)+q*(T*y+b)=T*(p*x+q*y+p)+(p*a-p*T)+q*b:=by grind
theorem Em {p q x y T a b d:Int} (hT:0<T) (ha:0<=a/\a<T) (hb:0<=b/\b<T) (hs:(0<=p/\q<=0)∨(p<=0/\0<=q)) (h1:d<=p*x+q*y+p) (h2:d<=p*x+q*y+q):T*d<=p*(T*x+a)+q*(T*y+b):=by
 rcases hs with ⟨h3,h4⟩ | ⟨h3,h4⟩
 ·have k1:0<=p*a:=Int.mul_nonneg h3 ha.1
  have k2:q*T<=q*b:=Int.mul_le_mul_of_nonpos_left h4 F3
  have k3:T*d<=T*(p*x+q*y+q):=Int.mul_le_mul_of_nonneg_left h2 F3
  rw [alg_lin1 (d:=d)]
  omega
 have k1:0<=q*b:=Int.mul_nonneg h4 hb.1
 have k2:p*T<=p*a:=Int.mul_le_mul_of_nonpos_left h3 F3
 have k3:T*d<=T*(p*x+q*y+p):=Int.mul_le_mul_of_nonneg_left h1 F3
 rw [alg_lin2 (d:=d)]
 omega
theorem rB {k r:Int} (hk:0<=k/\k<=2147483648) (hr:-2147483648<=r/\r<=2147483648):-4611686018427387904<=k*r/\k*r<=4611686018427387904:=by
 have h1:k*r<=k*2147483648:=Int.mul_le_mul_of_nonneg_left hr.2 hk.1
 have h2:k*(-2147483648)<=k*r:=Int.mul_le_mul_of_nonneg_left hr.1 hk.1
 omega
theorem alg_l1 {p q r s x y k u v:Int} (hu:u=p*x+q*y) (hv:v=r*x+s*y):u-k*v=(p-k*r)*x+(q-k*s)*y:=by rw [hu,hv];grind
theorem alg_l2 {p q r s n m k:Int}:(p-k*r)*n+(q-k*s)*m=(p*n+q*m)-k*(r*n+s*m):=by grind
theorem alg_l3 {p q r s n m k:Int}:((k+1)*r-p)*n+((k+1)*s-q)*m=(k+1)*(r*n+s*m)-(p*n+q*m):=by grind
theorem alg_l4 {u p v r k:Int}:(u-k*v)+(p-k*r)=(u+p)-k*(v+r):=by grind
theorem alg_l5 {x y p q r s u v k g h:Int} (hu:u=p*x+q*y) (hv:v=r*x+s*y):((k+1)*r-p)*x+((k+1)*s-q)*y+((k+1)*g-h)=(k+1)*(v+g)-(u+h):=by rw [hu,hv];grind
theorem xo {k A:Int}:(k+1)*A=k*A+A:=by grind
def zb (n m:Int) (R:List Int×List Int×Bool):Prop:=R.2.2=true->∃ C D,Can WW R.1 C/\Can WW R.2.1 D/\gI C D=gI n m/\D<=C/\D<m/\C<=n
theorem Er {a b:List Int} {n m p q r s:Int} (la:a.length<1073741824) (lb:b.length<1073741824) (ha:Can WW a n) (hb:Can WW b m)
 (h1:(0<=p/\q<=0)∨(p<=0/\0<=q)) (h2:(0<=r/\s<=0)∨(r<=0/\0<=s))
 (bp:-2147483648<=p/\p<=2147483648) (bq:-2147483648<=q/\q<=2147483648) (br:-2147483648<=r/\r<=2147483648) (bs:-2147483648<=s/\s<=2147483648)
 (hA:0<=p*n+q*m) (hB:0<=r*n+s*m) (hg:gI (p*n+q*m) (r*n+s*m)=gI n m) (hn:p*n+q*m<=n) (hBA:r*n+s*m<=p*n+q*m) (hm:q≠0->r*n+s*m<m) :
 ∃ R,Ev (fun k=>bg.j2 k a b p q r s) R/\zb n m R:=by
 by_cases c:q=0
 ·refine ⟨([],[],false),?_,fun h=>by simp at h⟩
  refine Ev.step (fun k=>by rw [bg.j2]) ?_
  exact evp c (evs _)
 obtain ⟨x,x1,x2⟩:=tW la lb ha hb h1 F3 F3 hA
 obtain ⟨y,y1,y2⟩:=tW la lb ha hb h2 F3 F3 hB
 refine ⟨(x,y,true),?_,fun _=>⟨_,_,x2,y2,hg,hBA,hm c,hn⟩⟩
 refine Ev.step (fun k=>by rw [bg.j2]) ?_
 exact evn c (Ev.bind x1 (Ev.bind y1 (evs _)))
theorem Ep {a b:List Int} {n m x y T a' b':Int} (la:a.length<1073741824) (lb:b.length<1073741824) (ha:Can WW a n) (hb:Can WW b m) (hT:0<T) (hn:n=T*x+a') (hm:m=T*y+b') (ha':0<=a'/\a'<T) (hb':0<=b'/\b'<T) (c:Nat) :
 ∀ p q r s u v:Int,(v+r).toNat=c->u=p*x+q*y->v=r*x+s*y ->
 ((0<=p/\q<=0/\r<=0/\0<=s)∨(p<=0/\0<=q/\0<=r/\s<=0)) ->
 (0<=u+p/\u+p<=2147483648)->(0<=u+q/\u+q<=2147483648)->(0<=v+r/\v+r<=2147483648)->(0<=v+s/\v+s<=2147483648) ->
 gI (p*n+q*m) (r*n+s*m)=gI n m->r*n+s*m<=m->p*n+q*m<=n->r*n+s*m<=p*n+q*m->(q≠0->r*n+s*m<m)->m<=n ->
 ∃ R,Ev (fun k=>bg.l0 k a b p q r s u v) R/\zb n m R:=by
 induction c using Nat.strongRecOn with
 | _ c ih =>
  intro p q r s u v hc hu hv hs bp bq br bs hg hBm hAn hBA hq hmn
  have hA:0<=p*n+q*m:=by
   have:=Em (p:=p) (q:=q) (x:=x) (y:=y) (d:=0) hT ha' hb' F3 (by rw [<- hu];omega) (by rw [<- hu];omega)
   rw [hn,hm];omega
  have hB:0<=r*n+s*m:=by
   have:=Em (p:=r) (q:=s) (x:=x) (y:=y) (d:=0) hT ha' hb' F3 (by rw [<- hv];omega) (by rw [<- hv];omega)
   rw [hn,hm];omega
  obtain ⟨R0,e1,e2⟩:=Er (p:=p) (q:=q) (r:=r) (s:=s) la lb ha hb F3 F3 F3 F3 F3 F3 hA hB hg hAn hBA hq
  have stop:Ev (fun k=>bg.j1 k a b p q r s u v false) R0:=by
   refine Ev.step (fun k=>by rw [bg.j1]) ?_
   exact evn F4 e1
  by_cases c1:v+r=0
  ·refine ⟨R0,?_,e2⟩
   refine Ev.step (fun k=>by rw [bg.l0]) ?_
   rw [w64 (x:=v+r) F3 F3]
   exact evp c1 stop
  by_cases c2:v+s=0
  ·refine ⟨R0,?_,e2⟩
   refine Ev.step (fun k=>by rw [bg.l0]) ?_
   rw [w64 (x:=v+r) F3 F3,w64 (x:=v+s) F3 F3,show (v+s != 0)=false by simp [c2]]
   exact evn c1 stop
  have step:∀ R,Ev (fun k=>bg.j1 k a b p q r s u v true) R->Ev (fun k=>bg.l0 k a b p q r s u v) R:=by
   intro R h
   refine Ev.step (fun k=>by rw [bg.l0]) ?_
   rw [w64 (x:=v+r) F3 F3,w64 (x:=v+s) F3 F3,show (v+s != 0)=true by simp [c2]]
   exact evn c1 h
  have k0:0<=(u+p) / (v+r):=Int.ediv_nonneg F3 F3
  have k1:(u+p) / (v+r)<=u+p:=Int.ediv_le_self _ F3
  have g0:0<=(u+q) / (v+s):=Int.ediv_nonneg F3 F3
  have g1:(u+q) / (v+s)<=u+q:=Int.ediv_le_self _ F3
  have d1:=Int.mul_ediv_add_emod (u+p) (v+r)
  have d2:=Int.emod_nonneg (u+p) (show v+r≠0 by omega)
  have d3:=Int.emod_lt_of_pos (u+p) (show 0<v+r by omega)
  have f1:=Int.mul_ediv_add_emod (u+q) (v+s)
  have f2:=Int.emod_nonneg (u+q) (show v+s≠0 by omega)
  have f3:=Int.emod_lt_of_pos (u+q) (show 0<v+s by omega)
  generalize hk:(u+p) / (v+r)=K at k0 k1 d1
  generalize hk2:(u+q) / (v+s)=K2 at g0 g1 f1
  generalize (u+p) % (v+r)=w1 at d1 d2 d3
  generalize (u+q) % (v+s)=w2 at f1 f2 f3
  have tests:∀ R,(K=K2->Ev (fun k=>bg.l0 k a b r s (p-K*r) (q-K*s) v (u-K*v)) R)->(K≠K2->Ev (fun k=>bg.j2 k a b p q r s) R)->Ev (fun k=>bg.j1 k a b p q r s u v true) R:=by
   intro R h1 h2
   refine Ev.step (fun k=>by rw [bg.j1]) ?_
   have m1:=rB (k:=K) (r:=r) ⟨k0,F3⟩ F3
   have m2:=rB (k:=K) (r:=s) ⟨k0,F3⟩ F3
   have m3:=rB (k:=K) (r:=v) ⟨k0,F3⟩ F3
   rw [w64 (x:=v+r) F3 F3,w64 (x:=v+s) F3 F3,w64 (x:=u+p) F3 F3,w64 (x:=u+q) F3 F3,eT (x:=u+p) F3,eT (x:=u+q) F3,hk,hk2,
    w64 (x:=K) F3 F3,w64 (x:=K2) F3 F3,w64 (x:=K*r) F3 F3,w64 (x:=K*s) F3 F3,w64 (x:=K*v) F3 F3,w64 (x:=p-K*r) F3 F3,w64 (x:=q-K*s) F3 F3,w64 (x:=u-K*v) F3 F3]
   refine evp rfl (evn c1 (evn c2 ?_))
   by_cases c3:K=K2
   ·exact evp c3 (h1 c3)
   exact evn c3 (h2 c3)
  by_cases c3:K=K2
  ·subst c3
   have s1:(u-K*v)+(p-K*r)=w1:=by rw [alg_l4,Int.mul_comm K];omega
   have s2:(u-K*v)+(q-K*s)=w2:=by rw [alg_l4,Int.mul_comm K];omega
   have sg:(0<=r/\s<=0/\p-K*r<=0/\0<=q-K*s)∨(r<=0/\0<=s/\0<=p-K*r/\q-K*s<=0):=by
    rcases hs with ⟨t1,t2,t3,t4⟩ | ⟨t1,t2,t3,t4⟩
    ·have i1:=Int.mul_nonpos_of_nonneg_of_nonpos k0 t3
     have i2:=Int.mul_nonneg k0 t4
     exact .inr ⟨t3,t4,F3,F3⟩
    have i1:=Int.mul_nonneg k0 t3
    have i2:=Int.mul_nonpos_of_nonneg_of_nonpos k0 t4
    exact .inl ⟨t3,t4,F3,F3⟩
   have lt:(p-K*r)*n+(q-K*s)*m<r*n+s*m:=by
    have i:=Em (p:=(K+1)*r-p) (q:=(K+1)*s-q) (x:=x) (y:=y) (d:=1) hT ha' hb' (by
     rw [xo,xo]
     omega) (by
     rw [alg_l5 hu hv,xo,Int.mul_comm K]
     omega) (by
     rw [alg_l5 hu hv,xo,Int.mul_comm K]
     omega)
    rw [<- hn,<- hm,alg_l3,xo] at i
    rw [alg_l2]
    omega
   obtain ⟨R,r1,r2⟩:=ih (u-K*v+(p-K*r)).toNat (by rw [s1];omega) r s (p-K*r) (q-K*s) v (u-K*v) rfl hv (alg_l1 hu hv) sg F3 F3 F3 F3
    (by rw [alg_l2,gI_sub];exact hg) F3 F3 F3 (fun _=>F3) hmn
   exact ⟨R,step R (tests R (fun _=>r1) (fun h=>absurd rfl h)),r2⟩
  exact ⟨R0,step R0 (tests R0 (fun h=>absurd h c3) (fun _=>e1)),e2⟩
theorem Eo {a b:List Int} {n m:Int} (la:a.length<1073741824) (lb:b.length<1073741824) (hb2:2<b.length) (ha:Can WW a n) (hb:Can WW b m) (hmn:m<=n):∃ R,Ev (fun k=>bg.f k a b) R/\zb n m R:=by
 have lba:=jG ha hb hmn
 have n0:=ha.fQ aO
 have m0:=hb.fQ aO
 have mz:=hb.iU aO
 have m1:m≠0:=fun h=>by have:=mz.2 h;omega
 obtain ⟨A,A1,A2,A3,A4⟩:=rF F3 ha
 obtain ⟨B,B1,B2,B3,B4⟩:=rF F3 hb
 obtain ⟨A5,A6,A7,A8⟩:=A4 F3
 clear A3 A4 B3 B4
 unfold bg.f
 rw [A1,B1]
 simp only [Option.bind_some]
 rw [w64 (x:=(A:Int)-20) F3 F3,w64 (x:=(A:Int)-31) F3 F3,show (A:Int)-31=((A-31:Nat):Int) by omega]
 by_cases c:(B:Int)<(A:Int)-20
 ·exact ⟨([],[],false),evp c (evs _),fun h=>by simp at h⟩
 obtain ⟨x,x1,x2,x3⟩:=oN (A-31) F3 F3 ha
 obtain ⟨y,y1,y2,y3⟩:=oN (A-31) F3 F3 hb
 have hT:=two_pos (A-31)
 have e:(2:Int) ^ A=2 ^ (A-31)*2147483648:=by
  rw [show (2147483648:Int)=2 ^ 31 by decide,<- Int.pow_add]
  congr 1
  omega
 rw [e] at A6
 clear e A5
 generalize (2:Int) ^ (A-31)=T at hT A6 x2 y2
 have q1:n / T<2147483648:=Int.ediv_lt_of_lt_mul hT (by rw [Int.mul_comm];exact A6)
 have q2:m / T<=n / T:=Int.ediv_le_ediv hT hmn
 have q3:0<=m / T:=Int.ediv_nonneg m0 F3
 have hW2:WW ^ 2=18446744073709551616:=by decide
 have sx:=ix x2 (x2.gC (k:=2) bH F3)
 have sy:=ix y2 (y2.gC (k:=2) bH F3)
 have i1:=Int.emod_nonneg n (show T≠0 by omega)
 have i2:=Int.emod_lt_of_pos n hT
 have i3:=Int.emod_nonneg m (show T≠0 by omega)
 have i4:=Int.emod_lt_of_pos m hT
 have j1:=Int.mul_ediv_add_emod n T
 have j2:=Int.mul_ediv_add_emod m T
 obtain ⟨R,r1,r2⟩:=Ep la lb ha hb hT j1.symm j2.symm ⟨i1,i2⟩ ⟨i3,i4⟩ _ 1 0 0 1 (n / T) (m / T) rfl F3 F3 F3 F3 F3 F3 F3
  (by rw [Int.one_mul,Int.zero_mul,Int.zero_mul,Int.one_mul,Int.add_zero,Int.zero_add]) F3 F3 F3 (fun h=>absurd rfl h) hmn
 refine ⟨R,evn c (Ev.bind x1 (evb sx (Ev.bind y1 (evb sy ?_)))),r2⟩
 show Ev (fun k=>bg.l0 k a b 1 0 0 1 (wrap64 (n / T)) (wrap64 (m / T))) R
 rw [w64 (x:=n / T) F3 F3,w64 (x:=m / T) F3 F3]
 exact r1
theorem B9 (c:Nat):∀ x y:Int,y.toNat=c->0<=x->x<18446744073709551616->0<=y->y<18446744073709551616->∃ r,Ev (fun k=>bU.l1 k x y) r/\Can WW r (gI x y):=by
 induction c using Nat.strongRecOn with
 | _ c ih =>
  intro x y hc x0 x1 y0 y1
  by_cases c1:y=0
  ·subst c1
   obtain ⟨r,r1,r2⟩:=fH x0 x1
   rw [uU x0]
   refine ⟨r,?_,r2⟩
   refine Ev.step (fun k=>by rw [bU.l1]) ?_
   exact evp rfl (Ev.bind r1 (evs _))
  have m0:=Int.emod_nonneg x (show y≠0 by omega)
  have m1:=Int.emod_lt_of_pos x (show 0<y by omega)
  obtain ⟨r,r1,r2⟩:=ih (x % y).toNat F3 y (x % y) rfl y0 y1 m0 F3
  rw [wV] at r2
  refine ⟨r,?_,r2⟩
  refine Ev.step (fun k=>by rw [bU.l1]) ?_
  rw [fg x0]
  exact evn c1 r1
theorem tI (c:Nat):∀ (a b:List Int) (n m:Int),m.toNat=c->a.length<1073741824->Can WW a n->Can WW b m->m<=n->∃ r,Ev (fun k=>bU.l0 k a b) r/\Can WW r (gI n m):=by
 induction c using Nat.strongRecOn with
 | _ c ih =>
  intro a b n m hc la ha hb hmn
  have lba:=jG ha hb hmn
  have n0:=ha.fQ aO
  have m0:=hb.fQ aO
  have hz:=hb.iU aO
  have hW2:WW ^ 2=18446744073709551616:=by decide
  by_cases c1:2<b.length
  ·have mp:0<m:=by
    rcases Int.lt_or_le 0 m with h | h
    ·exact h
    have:=hz.2 F3
    omega
   obtain ⟨R,r1,r2⟩:=Eo la F3 c1 ha hb hmn
   obtain ⟨x,y,f⟩:=R
   cases f with
   | true =>
    obtain ⟨C,D,s1,s2,s3,s4,s5,s6⟩:=r2 rfl
    have D0:=s2.fQ aO
    have lc:=jG ha s1 s6
    obtain ⟨z,z1,z2⟩:=ih D.toNat F3 x y C D rfl (by show x.length<_;have:x.length<=a.length:=lc;omega) s1 s2 s4
    rw [s3] at z2
    refine ⟨z,?_,z2⟩
    refine Ev.step (fun k=>by rw [bU.l0]) ?_
    exact evp F3 (Ev.bind r1 (evp rfl z1))
   | false =>
    have q0:=Int.emod_nonneg n (show m≠0 by omega)
    have q1:=Int.emod_lt_of_pos n mp
    obtain ⟨q,r,d1,d2,d3⟩:=jR F3 ha hb mp
    obtain ⟨z,z1,z2⟩:=ih (n % m).toNat F3 b r m (n % m) rfl F3 hb d3 F3
    rw [wV] at z2
    refine ⟨z,?_,z2⟩
    refine Ev.step (fun k=>by rw [bU.l0]) ?_
    exact evp F3 (Ev.bind r1 (evn F4 (Ev.bind d1 z1)))
  by_cases c2:b.length=0
  ·rw [hz.1 c2,uU n0]
   refine ⟨a,?_,ha⟩
   refine Ev.step (fun k=>by rw [bU.l0]) ?_
   exact evn F3 (evp F3 (evp (by simp;omega) (evs _)))
  have mp:0<m:=by
   rcases Int.lt_or_le 0 m with h | h
   ·exact h
   have:=hz.2 F3
   omega
  have q0:=Int.emod_nonneg n (show m≠0 by omega)
  have q1:=Int.emod_lt_of_pos n mp
  obtain ⟨q,r,d1,d2,d3⟩:=jR F3 ha hb mp
  have hlt:=hb.lt aO
  have h4:=eR (B:=WW) (by decide) (show b.length<=2 by omega)
  have l3:=d3.gC (k:=2) bH F3
  have e1:=ix hb F3
  have e2:=ix d3 l3
  obtain ⟨z,z1,z2⟩:=B9 _ m (n % m) rfl m0 F3 q0 F3
  rw [wV] at z2
  refine ⟨z,?_,z2⟩
  refine Ev.step (fun k=>by rw [bU.l0]) ?_
  exact evn F3 (evn F3 (Ev.bind d1 (evb e1 (evb e2 z1))))
theorem Cg {a b:List Int} {n m:Int} (la:a.length<1073741824) (lb:b.length<1073741824) (ha:Can WW a n) (hb:Can WW b m):∃ r,Ev (fun k=>bU.f k a b) r/\Can WW r (gI n m):=by
 have hc:=oO F3 ha hb
 unfold bU.f
 by_cases c:n<m
 ·obtain ⟨r,r1,r2⟩:=tI _ b a m n rfl lb hb ha F3
  rw [gI_comm] at r2
  refine ⟨r,Ev.bind hc (evp ?_ ?_),r2⟩
  ·unfold fa;rw [if_pos c];omega
  exact Ev.step (fun k=>by rw [bU.j0]) r1
 obtain ⟨r,r1,r2⟩:=tI _ a b n m rfl la ha hb F3
 refine ⟨r,Ev.bind hc (evn ?_ ?_),r2⟩
 ·unfold fa;rw [if_neg c];split<;>omega
 exact Ev.step (fun k=>by rw [bU.j0]) r1
def sv (s:ByteArray):Nat->Int
 | 0=>0
 | i+1=>sv s i*10+(bt s (i:Int)-48)
end Go.Proofs.YtfbgaddecbiimaaGreatDoor.P
end
section
namespace Go.Proofs.YtfbgaddecbiimaaGreatDoor.Q
open Go.RowKit Go.Proofs.YtfbgaddecbiimaaGreatDoorW.PrintWords Go.Proofs.YtfbgaddecbiimaaGreatDoorW.PrintMore Go.Proofs.YtfbgaddecbiimaaGreatDoor.V Go.Proofs.YtfbgaddecbiimaaGreatDoor.E
open Go.Proofs.YtfbgaddecbiimaaGreatDoor.P (Dg Nm vl WW RR bC gI evs evk evb fa aO bH)
theorem bT {α:Type} {c:Bool} {f g:Nat->Option α} {r:α} (hc:c=true) (h:Ev f r):Ev (fun k=>bif c then f k else g k) r:=by subst hc;exact h
theorem bF {α:Type} {c:Bool} {f g:Nat->Option α} {r:α} (hc:c=false) (h:Ev g r):Ev (fun k=>bif c then f k else g k) r:=by subst hc;exact h
theorem iT {α:Type} {c:Prop} [Decidable c] {f:Nat->Option α} {r:α} (hc:c) (h:Ev f r):Ev (fun k=>if c then f k else none) r:=by simpa only [if_pos hc] using h
theorem evmap {α β:Type} {f:Nat->Option α} {g:α->β} {r:α} (h:Ev f r):Ev (fun k=>(f k).map g) (g r):=by
 obtain ⟨K,h⟩:=h
 exact ⟨K,fun k hk=>by simp only [h k hk,Option.map_some]⟩
def sg (s:Bool) (x:Int):Int:=if s then -x else x
def RB (B:Int) (v:cf) (q:Rat):Prop:=v.1=decide (q.num<0)/\P.Can B v.2.1 (q.num.natAbs:Int)/\P.Can B v.2.2.1 (q.den:Int)
theorem can1 {B:Int} (h:1<B):P.Can B [1] 1:=⟨Dg.mk (by decide) h (Dg.nil _),fun h=>F4,by simp [vl]⟩
theorem DH {B:Int} (h:1<B):RB B (false,[],[1],()) 0:=⟨rfl,P.Can.zero B,can1 h⟩
theorem vZ {B:Int} (h:1<B):RB B (false,[1],[1],()) 1:=⟨rfl,can1 h,can1 h⟩
theorem DI {B:Int} (hB:0<B) {v w:cf} {q:Rat} (hv:RB B v q) (hw:RB B w q):v=w:=by
 obtain ⟨a,b,c,d⟩:=v
 obtain ⟨a',b',c',d'⟩:=w
 obtain ⟨h1,h2,h3⟩:=hv
 obtain ⟨g1,g2,g3⟩:=hw
 have e1:a=a':=h1.trans g1.symm
 have e2:b=b':=bC hB h2 g2
 have e3:c=c':=bC hB h3 g3
 subst e1 e2 e3
 rfl
theorem EJ (x y:Int):((y.gcd x:Nat):Int)=gI x y:=by unfold gI;rw [Int.gcd_comm]
theorem qO {B:Int} {s:Bool} {l d:List Int} {x y:Int} (hx:0<x) (hy:0<y) (hl:P.Can B l (x / gI x y)) (hd:P.Can B d (y / gI x y)):RB B (s,l,d,()) (Rat.divInt (sg s x) y):=by
 have hg:0<gI x y:=by
  unfold gI
  have:=Int.gcd_pos_of_ne_zero_left y (show x≠0 by omega)
  omega
 have hgx:gI x y ∣ x:=Int.gcd_dvd_left ..
 have hgy:gI x y ∣ y:=Int.gcd_dvd_right ..
 have hq:0<x / gI x y:=Int.ediv_pos_of_pos_of_dvd hx F3 hgx
 have hr:0<y / gI x y:=Int.ediv_pos_of_pos_of_dvd hy F3 hgy
 have hsg:((y.gcd (sg s x):Nat):Int)=gI x y:=by
  unfold sg
  cases s with
  | true=>simp only [if_true,Int.gcd_neg];exact EJ x y
  | false=>exact EJ x y
 have hnum:(Rat.divInt (sg s x) y).num=sg s (x / gI x y):=by
  rw [Rat.num_divInt,hsg,Int.sign_eq_one_of_pos hy,Int.one_mul]
  unfold sg
  cases s with
  | true=>simp only [if_true];exact Int.neg_ediv_of_dvd hgx
  | false=>rfl
 have hden:((Rat.divInt (sg s x) y).den:Int)=y / gI x y:=by
  rw [Rat.den_divInt,if_neg F3,Int.natCast_ediv,hsg]
  congr 1
  omega
 refine ⟨?_,?_,?_⟩
 ·show s=_
  rw [hnum]
  unfold sg
  cases s with
  | true=>simp only [if_true];exact (decide_eq_true F3).symm
  | false=>exact (decide_eq_false (by simp;omega)).symm
 ·show P.Can B l _
  rw [hnum]
  have:((sg s (x / gI x y)).natAbs:Int)=x / gI x y:=by
   unfold sg
   cases s with
   | true=>simp only [if_true];omega
   | false=>simp;omega
  rw [this]
  exact hl
 show P.Can B d _
 rw [hden]
 exact hd
theorem wY (s:Bool) (y:Int):Rat.divInt (sg s 0) y=0:=by unfold sg;cases s<;>simp
theorem rb_val {B:Int} {v:cf} {q:Rat} (h:RB B v q):Rat.divInt (sg v.1 q.num.natAbs) q.den=q:=by
 have:sg v.1 q.num.natAbs=q.num:=by
  unfold sg
  rw [h.1]
  by_cases c:q.num<0
  ·rw [if_pos (decide_eq_true c)];omega
  rw [if_neg (by simpa using c)];omega
 rw [this,Rat.num_divInt_den]
theorem ma {B:Int} {v:cf} {q:Rat} (h:RB B v q):sg v.1 q.num.natAbs=q.num:=by
 unfold sg
 rw [h.1]
 by_cases c:q.num<0
 ·rw [if_pos (decide_eq_true c)];omega
 rw [if_neg (by simpa using c)];omega
theorem eB (q:Rat):(0:Int)<q.den:=by have:=q.den_pos;omega
def Sz (B:Int) (K:Nat) (q:Rat):Prop:=(q.num.natAbs:Int)<B ^ K/\(q.den:Int)<B ^ K
theorem Ba {B:Int} (hB:0<B) {v:cf} {q:Rat} (h:RB B v q) {K:Nat} (h1:v.2.1.length<=K) (h2:v.2.2.1.length<=K):Sz B K q :=
 ⟨Int.lt_of_lt_of_le (h.2.1.lt hB) (P.eR F3 h1),Int.lt_of_lt_of_le (h.2.2.lt hB) (P.eR F3 h2)⟩
theorem im {B:Int} (hB:1<B) {v:cf} {q:Rat} (h:RB B v q) {K:Nat} (hs:Sz B K q):v.2.1.length<=K/\v.2.2.1.length<=K:=⟨h.2.1.gC hB hs.1,h.2.2.gC hB hs.2⟩
theorem ox {B:Int} (hB:0<B) {q:Rat} {K L:Nat} (hs:Sz B K q) (h:K<=L):Sz B L q:=⟨Int.lt_of_lt_of_le hs.1 (P.eR F3 h),Int.lt_of_lt_of_le hs.2 (P.eR F3 h)⟩
theorem C4 {B:Int} {s:Bool} {x y:Int} {K:Nat} (hx:0<=x) (hy:0<y) (h1:x<B ^ K) (h2:y<B ^ K):Sz B K (Rat.divInt (sg s x) y):=by
 have hsx:(sg s x).natAbs=x.natAbs:=by unfold sg;cases s<;>simp
 constructor
 ·rw [Rat.num_divInt,Int.sign_eq_one_of_pos hy,Int.one_mul]
  have:((sg s x) / ((y.gcd (sg s x):Nat):Int)).natAbs<=(sg s x).natAbs:=by
   rw [Int.natAbs_ediv_of_dvd (Int.gcd_dvd_right ..)]
   exact Nat.div_le_self ..
  omega
 rw [Rat.den_divInt,if_neg F3]
 have:y.natAbs / (y.gcd (sg s x))<=y.natAbs:=Nat.div_le_self ..
 omega
open Go.Proofs.YtfbgaddecbiimaaGreatDoor.P (w64 u64)
section
variable {a b:List Int} {n m:Int}
theorem DL (hn:a.length+b.length<1099511627776) (ha:P.Can WW a n) (hb:P.Can WW b m):∃ r,Ev (fun k=>bG k a b) r/\P.Can WW r (n*m)/\r.length<=a.length+b.length:=by
 obtain ⟨r,h1,h2⟩:=P.jz hn ha hb
 exact ⟨r,Ev.step (fun k=>Cf k a b) h1,h2⟩
theorem q_Add (hla:a.length<1099511627776) (hlb:b.length<1099511627776) (ha:P.Can WW a n) (hb:P.Can WW b m):∃ r,Ev (fun k=>cM k a b) r/\P.Can WW r (n+m)/\r.length<=max a.length b.length+1:=by
 obtain ⟨r,h1,h2⟩:=P.Ck hla hlb ha hb
 exact ⟨r,Ev.step (fun k=>Cn k a b) h1,h2⟩
theorem q_Sub (hn:a.length<1099511627776) (ha:P.Can WW a n) (hb:P.Can WW b m) (hle:m<=n):∃ r,Ev (fun k=>cW k a b) r/\P.Can WW r (n-m)/\r.length<=a.length:=by
 obtain ⟨r,h1,h2⟩:=P.oM hn ha hb hle
 exact ⟨r,Ev.step (fun k=>Cb k a b) h1,h2⟩
theorem q_Cmp (hn:a.length<4611686018427387904) (ha:P.Can WW a n) (hb:P.Can WW b m):Ev (fun k=>cY k a b) (fa n m):=Ev.step (fun k=>Cj k a b) (P.oO hn ha hb)
theorem q_GCD (la:a.length<1073741824) (lb:b.length<1073741824) (ha:P.Can WW a n) (hb:P.Can WW b m):∃ r,Ev (fun k=>bU k a b) r/\P.Can WW r (gI n m):=by
 obtain ⟨r,h1,h2⟩:=P.Cg la lb ha hb
 exact ⟨r,Ev.step (fun k=>Ch k a b) h1,h2⟩
theorem zL (hn:a.length<17179869184) (ha:P.Can WW a n) (hb:P.Can WW b m) (hm:0<m):∃ q r,Ev (fun k=>aI k a b) (q,r,())/\P.Can WW q (n / m)/\P.Can WW r (n % m):=by
 obtain ⟨q,r,h1,h2⟩:=P.jR hn ha hb hm
 exact ⟨q,r,Ev.step (fun k=>uP k a b) (evmap (g:=fun r:List Int×List Int=>(r.1,r.2,())) h1),h2⟩
theorem EI {x y:Int} (hy:0<y):0<gI x y:=by
 unfold P.gI
 have:=Int.gcd_pos_of_ne_zero_right x (show y≠0 by omega)
 omega
theorem one_tst {l:List Int} {z:Int} (h:P.Can WW l z) (hz:0<z) (h1:z≠1):(bif (List.length l:Int) != (1:Int) then some true else if 0<=(0:Int)/\(0:Int)<(List.length l:Int) then some ((rdT (t:=(.int .u32)) l (0:Int):Int) != (1:Int)) else none)=some true:=by
 match l,h with
 | [],h=>rfl
 | [x],h =>
  have hx:x=z:=by have:=h.2.2;simp [vl] at this;exact this
  have hr:(rdT (t:=(.int .u32)) [x] (0:Int):Int)=x:=rfl
  rw [hr]
  have:(x != (1:Int))=true:=by simp;omega
  rw [this]
  simp
 | x :: y :: t,h =>
  have:((List.length (x :: y :: t):Int) != (1:Int))=true:=by simp;omega
  rw [this]
  rfl
theorem one_tst' {l:List Int} {z:Int} (h:P.Can WW l z) (hz:z=1):(bif (List.length l:Int) != (1:Int) then some true else if 0<=(0:Int)/\(0:Int)<(List.length l:Int) then some ((rdT (t:=(.int .u32)) l (0:Int):Int) != (1:Int)) else none)=some false:=by
 subst hz
 rw [bC aO h (can1 bH)]
 rfl
theorem yq:Ev (fun k=>nK k) (false,[],[1],()):=Ev.step (fun k=>yr k) (evs _)
theorem nO {B:Int} (hB:0<B) {l:List Int} {x:Int} (h:P.Can B l x) (hx:x≠0):((List.length l:Int)==(0:Int))=false:=by
 have:=h.iU hB
 have:l.length≠0:=fun e=>hx (this.1 e)
 simp
 intro e
 exact this (by simp [e])
theorem En {B:Int} (hB:0<B) {l:List Int} {x:Int} (h:P.Can B l x) (hx:x=0):l=[]:=(h.yx hB).2 hx
theorem iR {s:Bool} (la:a.length<1073741824) (lb:b.length<1073741824) (ha:P.Can WW a n) (hb:P.Can WW b m) (hm:0<m):∃ r,Ev (fun k=>di k s a b) r/\RB WW r (Rat.divInt (sg s n) m):=by
 have n0:=ha.fQ aO
 by_cases hn:n=0
 ·obtain rfl:=En aO ha hn
  refine ⟨_,Ev.step (fun k=>mH k s [] b) (bT rfl (Ev.bind yq (evs _))),?_⟩
  rw [hn,wY]
  exact DH bH
 obtain ⟨g,g1,g2⟩:=q_GCD la lb ha hb
 have gp:=EI (x:=n) hm
 have fin:∀ {u v:List Int},u.length<=a.length->v.length<=b.length->P.Can WW u (n / gI n m)->P.Can WW v (m / gI n m)->Ev (fun k=>di.j0 k s u v (false,[],[],())) (s,u,v,()):=fun h1 h2 _ _=>by
  unfold di.j0
  exact iT F3 (iT F3 (evs _))
 by_cases h1:gI n m=1
 ·have e1:n / gI n m=n:=by rw [h1];omega
  have e2:m / gI n m=m:=by rw [h1];omega
  have ca:P.Can WW a (n / gI n m):=by rw [e1];exact ha
  have cb:P.Can WW b (m / gI n m):=by rw [e2];exact hb
  exact ⟨_,Ev.step (fun k=>mH k s a b) (bF (nO aO ha hn) (Ev.bind g1 (Ev.bind (evk (one_tst' g2 h1)) (bF rfl (fin (Nat.le_refl _) (Nat.le_refl _) ca cb))))),qO F3 hm ca cb⟩
 obtain ⟨u,u',u1,u2,u3⟩:=zL F3 ha g2 gp
 obtain ⟨v,v',v1,v2,v3⟩:=zL F3 hb g2 gp
 have lu:u.length<=a.length:=u2.gC bH (Int.lt_of_le_of_lt (Int.ediv_le_self _ n0) (ha.lt aO))
 have lv:v.length<=b.length:=v2.gC bH (Int.lt_of_le_of_lt (Int.ediv_le_self _ F3) (hb.lt aO))
 exact ⟨_,Ev.step (fun k=>mH k s a b) (bF (nO aO ha hn) (Ev.bind g1 (Ev.bind (evk (one_tst g2 gp h1)) (bT rfl (Ev.bind u1 (Ev.bind v1 (fin lu lv u2 v2))))))),qO F3 hm u2 v2⟩
end
section
variable {v w:cf} {p q:Rat} {K L:Nat}
theorem sg_mul (s t:Bool) (x y:Int):sg (s != t) (x*y)=sg s x*sg t y:=by
 unfold sg
 cases s<;>cases t<;>simp [Int.neg_mul,Int.mul_neg]
theorem lH (s:Bool) (x y:Int):sg s x*y=sg s (x*y):=by
 unfold sg
 cases s<;>simp [Int.neg_mul]
theorem fE {x y:Int} (hx:0<x) (hy:0<y):0<x*y:=Int.mul_pos hx hy
theorem BZ (hv:RB WW v p) (hw:RB WW w q) (hp:Sz WW K p) (hq:Sz WW L q) (h:K+L<1073741824):∃ r,Ev (fun k=>ru k v w) r/\RB WW r (p*q)/\Sz WW (K+L) (p*q):=by
 obtain ⟨lv1,lv2⟩:=im bH hv hp
 obtain ⟨lw1,lw2⟩:=im bH hw hq
 obtain ⟨x,x1,x2,x3⟩:=DL F3 hv.2.1 hw.2.1
 obtain ⟨y,y1,y2,y3⟩:=DL F3 hv.2.2 hw.2.2
 have hd:(0:Int)<(p.den:Int)*q.den:=fE (eB p) (eB q)
 obtain ⟨r,r1,r2⟩:=iR (s:=v.1 != w.1) F3 F3 x2 y2 hd
 have e:Rat.divInt (sg (v.1 != w.1) ((p.num.natAbs:Int)*q.num.natAbs)) ((p.den:Int)*q.den)=p*q:=by
  rw [sg_mul,ma hv,ma hw,<- Rat.divInt_mul_divInt,Rat.num_divInt_den,Rat.num_divInt_den]
 have hs:Sz WW (K+L) (p*q):=by
  rw [<- e]
  refine C4 (Int.mul_nonneg F3 F3) hd ?_ ?_
  ·exact Int.lt_of_lt_of_le (x2.lt aO) (P.eR (by decide) F3)
  exact Int.lt_of_lt_of_le (y2.lt aO) (P.eR (by decide) F3)
 rw [e] at r2
 exact ⟨r,Ev.step (fun k=>B0 k v w) (Ev.bind x1 (Ev.bind y1 (Ev.bind r1 (evs _)))),r2,hs⟩
theorem AK {s t:Bool} (h:¬ s=t):(s==t)=false:=by cases s<;>cases t<;>simp_all
theorem wB {x y d:List Int} {X Y D:Int} {s t:Bool} {u u' c:cf} (hu:u.1=s) (hu':u'.1=t) (lx:x.length<536870912) (ly:y.length<536870912) (ld:d.length<1073741824) (hx:P.Can WW x X) (hy:P.Can WW y Y) (hd:P.Can WW d D) (hD:0<D) :
 ∃ r,Ev (fun k=>ik.j0 k x y d u u' c) r/\RB WW r (Rat.divInt (sg s X+sg t Y) D):=by
 by_cases hst:s=t
 ·obtain ⟨z,z1,z2,z3⟩:=q_Add F3 F3 hx hy
  obtain ⟨r,r1,r2⟩:=iR (s:=s) F3 ld z2 hd hD
  refine ⟨r,?_,?_⟩
  ·unfold ik.j0
   rw [hu,hu']
   exact bT (by subst hst;simp) (Ev.bind z1 (Ev.bind r1 (evs _)))
  have:sg s X+sg t Y=sg s (X+Y):=by subst hst;unfold sg;cases s<;>simp<;>omega
  rw [this]
  exact r2
 have hc:=q_Cmp F3 hx hy
 by_cases hxy:Y<=X
 ·obtain ⟨z,z1,z2,z3⟩:=q_Sub F3 hx hy hxy
  obtain ⟨r,r1,r2⟩:=iR (s:=s) F3 ld z2 hd hD
  refine ⟨r,?_,?_⟩
  ·unfold ik.j0
   rw [hu,hu']
   refine bF (AK hst) (Ev.bind hc (bT (decide_eq_true ?_) (Ev.bind z1 (Ev.bind r1 (evs _)))))
   unfold P.fa
   split
   ·omega
   split<;>omega
  have:sg s X+sg t Y=sg s (X-Y):=by
   unfold sg
   cases s<;>cases t<;>simp at hst ⊢<;>omega
  rw [this]
  exact r2
 obtain ⟨z,z1,z2,z3⟩:=q_Sub F3 hy hx F3
 obtain ⟨r,r1,r2⟩:=iR (s:=t) F3 ld z2 hd hD
 refine ⟨r,?_,?_⟩
 ·unfold ik.j0
  rw [hu,hu']
  refine bF (AK hst) (Ev.bind hc (bF (decide_eq_false ?_) (Ev.bind z1 (Ev.bind r1 (evs _)))))
  unfold P.fa
  rw [if_pos F3]
  omega
 have:sg s X+sg t Y=sg t (Y-X):=by
  unfold sg
  cases s<;>cases t<;>simp at hst ⊢<;>omega
 rw [this]
 exact r2
theorem n7 (p q:Rat):p+q=Rat.divInt (p.num*q.den+q.num*p.den) ((p.den:Int)*q.den):=by
 have h:=Rat.divInt_add_divInt p.num q.num (d₁:=(p.den:Int)) (d₂:=(q.den:Int)) (by have:=eB p;omega) (by have:=eB q;omega)
 rw [Rat.num_divInt_den,Rat.num_divInt_den] at h
 exact h
theorem FB (p q:Rat) (h:p.den=q.den):p+q=Rat.divInt (p.num+q.num) (p.den:Int):=by
 rw [n7,<- h,<- Int.add_mul]
 exact Rat.divInt_mul_right (by have:=eB p;omega)
theorem sz_add (hp:Sz WW K p) (hq:Sz WW L q):Sz WW (K+L+1) (p+q):=by
 have hK:(0:Int)<WW ^ K:=Int.pow_pos (by decide)
 have hL:(0:Int)<WW ^ L:=Int.pow_pos (by decide)
 have e:(WW:Int) ^ (K+L+1)=WW ^ K*WW ^ L*4294967296:=by rw [Int.pow_succ,Int.pow_add]
 obtain ⟨p1,p2⟩:=hp
 obtain ⟨q1,q2⟩:=hq
 have dp:=eB p
 have dq:=eB q
 have a1:(p.num.natAbs:Int)*q.den<=WW ^ K*WW ^ L:=Int.mul_le_mul F3 F3 F3 F3
 have a2:(q.num.natAbs:Int)*p.den<=WW ^ L*WW ^ K:=Int.mul_le_mul F3 F3 F3 F3
 have a3:(p.den:Int)*q.den<=WW ^ K*WW ^ L:=Int.mul_le_mul F3 F3 F3 F3
 rw [Int.mul_comm (WW ^ L)] at a2
 have hKL:(0:Int)<WW ^ K*WW ^ L:=fE hK hL
 have hn:((p.num*q.den+q.num*p.den).natAbs:Int)<=(p.num.natAbs:Int)*q.den+(q.num.natAbs:Int)*p.den:=by
  have h1:=Int.natAbs_add_le (p.num*q.den) (q.num*p.den)
  rw [Int.natAbs_mul,Int.natAbs_mul] at h1
  simp only [Int.natAbs_natCast] at h1
  have:((p.num.natAbs*q.den+q.num.natAbs*p.den:Nat):Int)=(p.num.natAbs:Int)*q.den+(q.num.natAbs:Int)*p.den:=by
   rw [Int.natCast_add,Int.natCast_mul,Int.natCast_mul]
  omega
 rw [n7]
 constructor
 ·rw [Rat.num_divInt,Int.sign_eq_one_of_pos (fE dp dq),Int.one_mul]
  have:((p.num*q.den+q.num*p.den) / ((((p.den:Int)*q.den).gcd (p.num*q.den+q.num*p.den):Nat):Int)).natAbs<=(p.num*q.den+q.num*p.den).natAbs:=by
   rw [Int.natAbs_ediv_of_dvd (Int.gcd_dvd_right ..)]
   exact Nat.div_le_self ..
  omega
 rw [Rat.den_divInt,if_neg (by have:=fE dp dq;omega)]
 have:((p.den:Int)*q.den).natAbs / (((p.den:Int)*q.den).gcd (p.num*q.den+q.num*p.den))<=((p.den:Int)*q.den).natAbs:=Nat.div_le_self ..
 have:=fE dp dq
 omega
theorem B6 (hv:RB WW v p) (hw:RB WW w q) (hp:Sz WW K p) (hq:Sz WW L q) (h:K+L<268435456):∃ r,Ev (fun k=>ik k v w) r/\RB WW r (p+q)/\Sz WW (K+L+1) (p+q):=by
 obtain ⟨lv1,lv2⟩:=im bH hv hp
 obtain ⟨lw1,lw2⟩:=im bH hw hq
 have hc:=q_Cmp F3 hv.2.2 hw.2.2
 refine (show ∃ r,Ev (fun k=>ik k v w) r/\RB WW r (p+q) from ?_).elim fun r hr=>⟨r,hr.1,hr.2,sz_add hp hq⟩
 by_cases hd:(p.den:Int)=q.den
 ·obtain ⟨r,r1,r2⟩:=wB (c:=(false,[],[],())) (u:=v) (u':=w) rfl rfl F3 F3 F3 hv.2.1 hw.2.1 hv.2.2 (eB p)
  rw [ma hv,ma hw,<- FB p q F3] at r2
  refine ⟨r,Ev.step (fun k=>tG k v w) (Ev.bind hc (bF ?_ r1)),r2⟩
  unfold P.fa
  rw [if_neg F3,if_pos hd]
  rfl
 obtain ⟨x,x1,x2,x3⟩:=DL F3 hv.2.1 hw.2.2
 obtain ⟨y,y1,y2,y3⟩:=DL F3 hw.2.1 hv.2.2
 obtain ⟨d,d1,d2,d3⟩:=DL F3 hv.2.2 hw.2.2
 obtain ⟨r,r1,r2⟩:=wB (c:=(false,[],[],())) (u:=v) (u':=w) rfl rfl F3 F3 F3 x2 y2 d2 (fE (eB p) (eB q))
 rw [<- lH,<- lH,ma hv,ma hw,<- n7 p q] at r2
 refine ⟨r,Ev.step (fun k=>tG k v w) (Ev.bind hc (bT ?_ (Ev.bind x1 (Ev.bind y1 (Ev.bind d1 r1))))),r2⟩
 unfold P.fa
 split
 ·rfl
 rfl
end
section
variable {v w:cf} {p q:Rat} {K L:Nat}
theorem ry (hv:RB WW v p) (hp:Sz WW K p) (h:K<1073741824):Ev (fun k=>qh k v) v:=by
 obtain ⟨lv1,lv2⟩:=im bH hv hp
 obtain ⟨s,a,b,_⟩:=v
 exact Ev.step (fun k=>yw k _) (iT (by simp at lv1 ⊢;omega) (iT (by simp at lv2 ⊢;omega) (evs _)))
theorem sz_neg {B:Int} (hp:Sz B K p):Sz B K (-p):=by
 obtain ⟨h1,h2⟩:=hp
 refine ⟨?_,?_⟩
 ·rw [Rat.neg_num,Int.natAbs_neg];exact h1
 rw [Rat.neg_den];exact h2
theorem rb_neg {B:Int} (hv:RB B v p):RB B ((!v.1&&decide (p.num≠0)),v.2) (-p):=by
 obtain ⟨h1,h2,h3⟩:=hv
 refine ⟨?_,?_,?_⟩
 ·show (!v.1&&decide (p.num≠0))=decide ((-p).num<0)
  rw [Rat.neg_num,h1]
  by_cases c:p.num<0
  ·rw [decide_eq_true c,decide_eq_false (show ¬ -p.num<0 by omega)];rfl
  rw [decide_eq_false c]
  by_cases d:p.num=0
  ·rw [decide_eq_false (by simpa using d),decide_eq_false F3];rfl
  rw [decide_eq_true d,decide_eq_true F3];rfl
 ·rw [Rat.neg_num,Int.natAbs_neg];exact h2
 rw [Rat.neg_den];exact h3
def sgn (q:Rat):Int:=if q<0 then -1 else if q=0 then 0 else 1
theorem jP {q:Rat}:q.num<0↔q<0:=by
 rw [Rat.lt_iff]
 simp
theorem uQ {B:Int} (hB:0<B) (hv:RB B v p):((List.length v.2.1:Int)==(0:Int))=decide (p=0):=by
 by_cases c:p=0
 ·rw [En hB hv.2.1 (by rw [c];rfl),decide_eq_true c]
  rfl
 rw [decide_eq_false c]
 exact nO hB hv.2.1 (fun e=>c (Rat.num_eq_zero.1 F3))
theorem rq (hv:RB WW v p):Ev (fun k=>jk k v) (sgn p):=by
 refine Ev.step (fun k=>jQ k v) ?_
 rw [uQ aO hv,hv.1]
 unfold sgn
 by_cases c:p=0
 ·refine bT (decide_eq_true c) ?_
  rw [if_neg (by rw [c];exact Rat.lt_irrefl),if_pos c]
  exact evs _
 refine bF (decide_eq_false c) ?_
 by_cases d:p<0
 ·rw [if_pos d]
  exact bT (decide_eq_true (jP.2 d)) (evs _)
 rw [if_neg d,if_neg c]
 exact bF (decide_eq_false (fun e=>d (jP.1 e))) (evs _)
def cmpq (p q:Rat):Int:=if p<q then -1 else if p=q then 0 else 1
theorem sgn_vals (p:Rat):(sgn p = -1/\p<0)∨(sgn p=0/\p=0)∨(sgn p=1/\0<p):=by
 unfold sgn
 by_cases c:p<0
 ·exact .inl ⟨if_pos c,c⟩
 by_cases d:p=0
 ·exact .inr (.inl ⟨by rw [if_neg c,if_pos d],d⟩)
 exact .inr (.inr ⟨by rw [if_neg c,if_neg d],Rat.lt_of_le_of_ne (Rat.not_lt.1 c) (Ne.symm d)⟩)
end
section
variable {v w:cf} {p q:Rat} {K L:Nat}
theorem Cu (x:Int):Rat.divInt x 1=(x:Rat):=by rw [Rat.divInt_eq_div];simp;grind
theorem oK:Ev (fun k=>yu k) (false,[1],[1],()):=by
 obtain ⟨x,x1,x2⟩:=P.fH (a:=1) (by decide) (by decide)
 obtain rfl:=bC aO x2 (can1 bH)
 obtain ⟨r,r1,r2⟩:=iR (s:=false) F4 F4 (can1 bH) (can1 bH) (by decide)
 have e:Rat.divInt (sg false 1) 1=1:=by rw [Cu];rfl
 rw [e] at r2
 rw [DI aO (vZ bH) r2]
 refine Ev.step (fun k=>BX k) (Ev.bind (Ev.step (fun k=>B5 k 1) (bF (by decide) (Ev.bind (Ev.step (fun k=>yG k _) (by rw [u64 (by decide) (by decide)];exact x1)) (Ev.bind r1 (evs _))))) (evs _))
theorem C3 {B:Int} (h:1<B) {K:Nat} (hK:1<=K):Sz B K 1:=ox F3 (Ba F3 (vZ h) (K:=1) F4 F4) hK
end
open Go.Proofs.YtfbgaddecbiimaaGreatDoor.P (bh)
def Ev2 {α:Type} (g:Nat->Nat->Option α) (r:α):Prop:=∃ K,∀ k m,K<=k->K<=m->g k m=some r
section
variable {α β:Type} {g f:Nat->Nat->Option α} {r:α}
theorem Ev2.diag (h:Ev2 g r):Ev (fun k=>g k k) r:=by
 obtain ⟨K,h⟩:=h
 exact ⟨K,fun k hk=>h k k hk hk⟩
theorem Ev2.step (h:∀ k m,g k (m+1)=f k m) (k:Ev2 f r):Ev2 g r:=by
 obtain ⟨K,k⟩:=k
 refine ⟨K+1,fun n m hn hm=>?_⟩
 obtain ⟨q,rfl⟩:∃ q,m=q+1:=⟨m-1,F3⟩
 rw [h]
 exact k n q F3 F3
theorem Ev2.bind {g:Nat->Option β} {f:Nat->Nat->β->Option α} {a:β} (h:Ev g a) (k:Ev2 (fun n m=>f n m a) r):Ev2 (fun n m=>(g n).bind (f n m)) r:=by
 obtain ⟨K,h⟩:=h
 obtain ⟨K',k⟩:=k
 refine ⟨max K K',fun n m hn hm=>?_⟩
 have h1:=h n F3
 simp only [h1,Option.bind_some]
 exact k n m F3 F3
theorem Ev2.bT {c:Bool} (hc:c=true) (h:Ev2 f r):Ev2 (fun k m=>bif c then f k m else g k m) r:=by subst hc;exact h
theorem Ev2.bF {c:Bool} (hc:c=false) (h:Ev2 g r):Ev2 (fun k m=>bif c then f k m else g k m) r:=by subst hc;exact h
theorem Ev2.iT {c:Prop} [Decidable c] (hc:c) (h:Ev2 f r):Ev2 (fun k m=>if c then f k m else none) r:=by simpa only [if_pos hc] using h
theorem Ev2.of {g:Nat->Option α} (h:Ev g r):Ev2 (fun k _=>g k) r:=by
 obtain ⟨K,h⟩:=h
 exact ⟨K,fun k m hk _=>h k hk⟩
end
theorem cF:(1:Int)<RR:=by decide
section
variable {a b:List Int} {n m:Int}
theorem Dr (hn:a.length+b.length<68719476736) (ha:P.Can RR a n) (hb:P.Can RR b m):∃ r,Ev (fun k=>ax k a b) r/\P.Can RR r (n*m)/\r.length<=a.length+b.length:=by
 obtain ⟨r,h1,h2⟩:=P.r_Mul_sp hn ha hb
 exact ⟨r,Ev.step (fun k=>kQ k a b) h1,h2⟩
theorem s_Add (hn:a.length+b.length<68719476736) (ha:P.Can RR a n) (hb:P.Can RR b m):∃ r,Ev (fun k=>az k a b) r/\P.Can RR r (n+m)/\r.length<=max a.length b.length+1:=by
 obtain ⟨r,h1,h2⟩:=P.r_Add_sp hn ha hb
 exact ⟨r,Ev.step (fun k=>kV k a b) h1,h2⟩
theorem s_Sub (hn:a.length<68719476736) (ha:P.Can RR a n) (hb:P.Can RR b m) (hle:m<=n):∃ r,Ev (fun k=>aJ k a b) r/\P.Can RR r (n-m)/\r.length<=a.length:=by
 obtain ⟨r,h1,h2⟩:=P.zJ hn ha hb hle
 exact ⟨r,Ev.step (fun k=>kP k a b) h1,h2⟩
theorem s_Cmp (hn:a.length<4611686018427387904) (ha:P.Can RR a n) (hb:P.Can RR b m):Ev (fun k=>aG k a b) (fa n m):=Ev.step (fun k=>kU k a b) (P.cU hn ha hb)
theorem s_GCD (la:a.length<1073741824) (lb:b.length<1073741824) (ha:P.Can RR a n) (hb:P.Can RR b m):∃ r,Ev (fun k=>ay k a b) r/\P.Can RR r (gI n m):=by
 obtain ⟨r,h1,h2⟩:=P.r_GCD_sp la lb ha hb
 exact ⟨r,Ev.step (fun k=>kS k a b) h1,h2⟩
theorem zF (hn:a.length<1073741824) (hb:b.length<1073741824) (ha:P.Can RR a n) (cb:P.Can RR b m) (hm:0<m):∃ q r,Ev (fun k=>aC k a b) (q,r,())/\P.Can RR q (n / m)/\P.Can RR r (n % m):=by
 obtain ⟨q,r,h1,h2,h3,_⟩:=P.qP hn hb ha cb hm
 exact ⟨q,r,Ev.step (fun k=>jD k a b) (evmap (g:=fun r:List Int×List Int=>(r.1,r.2,())) h1),h2,h3⟩
theorem Dn (hn:a.length<1073741824) (ha:P.Can RR a n):∃ r,Ev (fun k=>aB k a) r/\P.Can WW r n:=by
 obtain ⟨r,h1,h2⟩:=P.BC hn ha
 exact ⟨r,Ev.step (fun k=>jX k a) h1,h2⟩
theorem Dq {k0 c0:Int} (hn:a.length<549755813888) (ha:P.Can RR a n) (hk:0<=k0/\k0<=65536) (hc:0<=c0/\c0<=65536):∃ r,Ev (fun k=>au k a k0 c0) r/\P.Can RR r (n*k0+c0)/\r.length<=a.length+2:=by
 obtain ⟨r,h1,h2⟩:=P.iD hn ha hk hc
 exact ⟨r,Ev.step (fun k=>jZ k a k0 c0) h1,h2⟩
theorem rdT_rd (l:List Int) (i:Int):(rdT (t:=(.int .u32)) l i:Int)=rd l i:=rfl
theorem s_Of_ev {a:List Int} (hn:a.length<137438953472) (ha:Dg WW a) (d:Nat):∀ (i:Nat) (o:List Int),i=d->i<=a.length->P.Can RR o (vl WW (a.drop i))->o.length<=4*(a.length-i)->∃ r,Ev2 (fun k m=>bE.l0 k m a o ((i:Int)-1)) r/\P.Can RR r (vl WW a)/\r.length<=4*a.length:=by
 induction d with
 | zero =>
  rintro i o rfl h1 h2 h3
  exact ⟨o,Ev2.step (fun k m=>bE.aV k m _ _ _) (Ev2.bF (decide_eq_false F3) (Ev2.of (evs _))),by simpa using h2,F3⟩
 | succ d ih =>
  rintro i o rfl h1 h2 h3
  have e1:(((d+1:Nat):Int)-1)=(d:Int):=F3
  have hx:=P.dB ha (d:Int) F3 F3
  rw [P.de] at hx
  obtain ⟨p,h4,h5,h6⟩:=Dq (k0:=65536) (c0:=rd a d / 65536) F3 h2 F3 F3
  obtain ⟨q,h7,h8,h9⟩:=Dq (k0:=65536) (c0:=rd a d % 65536) F3 h5 F3 F3
  have ea:a.drop d=rd a d :: a.drop (d+1):=by rw [P.mC a d F3];exact (List.drop_eq_getElem_cons F3)
  have ev:(vl WW (a.drop (d+1))*65536+rd a d / 65536)*65536+rd a d % 65536=vl WW (a.drop d):=by
   rw [ea,vl,P.de]
   omega
  rw [ev] at h8
  obtain ⟨r,h10,h11⟩:=ih d q rfl F3 h8 F3
  refine ⟨r,Ev2.step (fun k m=>bE.aV k m _ _ _) ?_,h11⟩
  have e2:shr .u32 (rd a (d:Int)) 16=rd a d / 65536:=rfl
  rw [e1]
  simp only [rdT_rd]
  rw [e2,P.and16 hx.1 hx.2,w64 (x:=rd a d / 65536) F3 F3,w64 (x:=rd a d % 65536) F3 F3,w64 (x:=(d:Int)-1) F3 F3]
  exact Ev2.bT (decide_eq_true F3) (Ev2.iT F3 (Ev2.bind h4 (Ev2.iT F3 (Ev2.bind h7 h10))))
theorem s_Of {a:List Int} {n:Int} (hn:a.length<137438953472) (ha:P.Can WW a n):∃ r,Ev (fun k=>bE k a) r/\P.Can RR r n/\r.length<=4*a.length:=by
 obtain ⟨r,h1,h2⟩:=s_Of_ev hn ha.1 a.length a.length [] rfl (Nat.le_refl _) (by rw [List.drop_length];exact P.Can.zero _) F4
 rw [ha.2.2] at h2
 refine ⟨r,Ev.step (fun k=>l5 k a) ?_,h2⟩
 rw [w64 (x:=(a.length:Int)-1) F3 F3]
 exact h1.diag
end
section
variable {a b:List Int} {n m:Int} {v w:cf} {p q:Rat} {K L:Nat}
theorem wJ {l:List Int} {z:Int} (h:P.Can RR l z):(bif (List.length l:Int)==(1:Int) then if 0<=(0:Int)/\(0:Int)<(List.length l:Int) then some ((rdT (t:=(.int .i64)) l (0:Int):Int)==(1:Int)) else none else some false)=some (decide (z=1)):=by
 match l,h with
 | [],h =>
  have:z=0:=by have:=h.2.2;simp [vl] at this;exact this.symm
  subst this
  rfl
 | [x],h =>
  have hx:x=z:=by have:=h.2.2;simp [vl] at this;exact this
  have hr:(rdT (t:=(.int .i64)) [x] (0:Int):Int)=x:=rfl
  rw [hr,hx]
  simp
  by_cases c:z=1<;>simp [c]
 | x :: y :: t,h =>
  have h1:((List.length (x :: y :: t):Int)==(1:Int))=false:=by simp;omega
  have h2:RR<=z:=by
   have:=h.ge bh F4
   refine Int.le_trans ?_ this
   have:=P.eR (B:=RR) (by decide) (i:=1) (j:=(x :: y :: t).length-1) F4
   rw [Int.pow_succ,Int.pow_zero,Int.one_mul] at this
   exact this
  have:RR=10000:=rfl
  rw [h1,decide_eq_false F3]
  rfl
theorem yI {l:List Int} {z:Int} (h:P.Can WW l z):(bif (List.length l:Int)==(1:Int) then if 0<=(0:Int)/\(0:Int)<(List.length l:Int) then some ((rdT (t:=(.int .u32)) l (0:Int):Int)==(1:Int)) else none else some false)=some (decide (z=1)):=by
 match l,h with
 | [],h =>
  have:z=0:=by have:=h.2.2;simp [vl] at this;exact this.symm
  subst this
  rfl
 | [x],h =>
  have hx:x=z:=by have:=h.2.2;simp [vl] at this;exact this
  have hr:(rdT (t:=(.int .u32)) [x] (0:Int):Int)=x:=rfl
  rw [hr,hx]
  simp
  by_cases c:z=1<;>simp [c]
 | x :: y :: t,h =>
  have h1:((List.length (x :: y :: t):Int)==(1:Int))=false:=by simp;omega
  have h2:WW<=z:=by
   have:=h.ge aO F4
   refine Int.le_trans ?_ this
   have:=P.eR (B:=WW) (by decide) (i:=1) (j:=(x :: y :: t).length-1) F4
   rw [Int.pow_succ,Int.pow_zero,Int.one_mul] at this
   exact this
  have:WW=4294967296:=rfl
  rw [h1,decide_eq_false F3]
  rfl
theorem xT:Ev (fun k=>fI k) (false,[],[1],()):=Ev.step (fun k=>kp k) (evs _)
theorem tz:Ev (fun k=>eo k) (false,[1],[1],()):=Ev.step (fun k=>kM k) (evs _)
theorem jK {s:Bool} (la:a.length<1073741824) (lb:b.length<1073741824) (ha:P.Can RR a n) (hb:P.Can RR b m) (hm:0<m):∃ r,Ev (fun k=>dh k s a b) r/\RB RR r (Rat.divInt (sg s n) m):=by
 have n0:=ha.fQ bh
 by_cases hn:n=0
 ·obtain rfl:=En bh ha hn
  refine ⟨_,Ev.step (fun k=>dS k s [] b) (bT rfl (Ev.bind xT (evs _))),?_⟩
  rw [hn,wY]
  exact DH cF
 have done:gI n m=1->RB RR (s,a,b,()) (Rat.divInt (sg s n) m):=fun h1=>by
  have e1:n / gI n m=n:=by rw [h1];omega
  have e2:m / gI n m=m:=by rw [h1];omega
  exact qO F3 hm (by rw [e1];exact ha) (by rw [e2];exact hb)
 by_cases hm1:m=1
 ·refine ⟨(s,a,b,()),Ev.step (fun k=>dS k s a b) (bF (nO bh ha hn) (Ev.bind (evk (wJ hb)) (bT (decide_eq_true hm1) (evs _)))),done ?_⟩
  unfold P.gI
  rw [hm1]
  simp
 obtain ⟨g,g1,g2⟩:=s_GCD la lb ha hb
 have gp:=EI (x:=n) hm
 by_cases h1:gI n m=1
 ·exact ⟨(s,a,b,()),Ev.step (fun k=>dS k s a b) (bF (nO bh ha hn) (Ev.bind (evk (wJ hb)) (bF (decide_eq_false hm1) (Ev.bind g1 (Ev.bind (evk (wJ g2)) (bT (decide_eq_true h1) (evs _))))))),done h1⟩
 have gl:g.length<1073741824:=Nat.lt_of_le_of_lt (g2.gC cF (Int.lt_of_le_of_lt (P.gI_le hm) (hb.lt bh))) lb
 obtain ⟨u,u',u1,u2,u3⟩:=zF la gl ha g2 gp
 obtain ⟨v,v',v1,v2,v3⟩:=zF lb gl hb g2 gp
 exact ⟨(s,u,v,()),Ev.step (fun k=>dS k s a b) (bF (nO bh ha hn) (Ev.bind (evk (wJ hb)) (bF (decide_eq_false hm1) (Ev.bind g1 (Ev.bind (evk (wJ g2)) (bF (decide_eq_false h1) (Ev.bind u1 (Ev.bind v1 (evs _)))))))))
,qO F3 hm u2 v2⟩
theorem Bw (hv:RB RR v p) (hw:RB RR w q) (hp:Sz RR K p) (hq:Sz RR L q) (h:K+L<1073741824):∃ r,Ev (fun k=>gf k v w) r/\RB RR r (p*q)/\Sz RR (K+L) (p*q):=by
 obtain ⟨lv1,lv2⟩:=im cF hv hp
 obtain ⟨lw1,lw2⟩:=im cF hw hq
 obtain ⟨x,x1,x2,x3⟩:=Dr F3 hv.2.1 hw.2.1
 obtain ⟨y,y1,y2,y3⟩:=Dr F3 hv.2.2 hw.2.2
 have hd:(0:Int)<(p.den:Int)*q.den:=fE (eB p) (eB q)
 obtain ⟨r,r1,r2⟩:=jK (s:=v.1 != w.1) F3 F3 x2 y2 hd
 have e:Rat.divInt (sg (v.1 != w.1) ((p.num.natAbs:Int)*q.num.natAbs)) ((p.den:Int)*q.den)=p*q:=by
  rw [sg_mul,ma hv,ma hw,<- Rat.divInt_mul_divInt,Rat.num_divInt_den,Rat.num_divInt_den]
 have hs:Sz RR (K+L) (p*q):=by
  rw [<- e]
  refine C4 (Int.mul_nonneg F3 F3) hd ?_ ?_
  ·exact Int.lt_of_lt_of_le (x2.lt bh) (P.eR (by decide) F3)
  exact Int.lt_of_lt_of_le (y2.lt bh) (P.eR (by decide) F3)
 rw [e] at r2
 exact ⟨r,Ev.step (fun k=>kN k v w) (Ev.bind x1 (Ev.bind y1 (Ev.bind r1 (evs _)))),r2,hs⟩
theorem Bv (hv:RB RR v p) (hp:Sz RR K p):∃ r,Ev (fun k=>gb k v) r/\RB RR r (-p)/\Sz RR K (-p):=by
 by_cases c:p=0
 ·refine ⟨v,Ev.step (fun k=>gZ k v) (bT (by rw [uQ bh hv];exact decide_eq_true c) (evs _)),?_,sz_neg hp⟩
  subst c
  exact hv
 have hn:p.num≠0:=fun e=>c (Rat.num_eq_zero.1 e)
 have h:=rb_neg hv
 rw [decide_eq_true hn,Bool.and_true] at h
 obtain ⟨s,x,y,_⟩:=v
 exact ⟨_,Ev.step (fun k=>gZ k _) (bF (by rw [uQ bh hv];exact decide_eq_false c) (evs _)),h,sz_neg hp⟩
theorem sz_addR (hp:Sz RR K p) (hq:Sz RR L q):Sz RR (K+L+1) (p+q):=by
 have hK:(0:Int)<RR ^ K:=Int.pow_pos (by decide)
 have hL:(0:Int)<RR ^ L:=Int.pow_pos (by decide)
 have e:(RR:Int) ^ (K+L+1)=RR ^ K*RR ^ L*10000:=by rw [Int.pow_succ,Int.pow_add]
 obtain ⟨p1,p2⟩:=hp
 obtain ⟨q1,q2⟩:=hq
 have dp:=eB p
 have dq:=eB q
 have a1:(p.num.natAbs:Int)*q.den<=RR ^ K*RR ^ L:=Int.mul_le_mul F3 F3 F3 F3
 have a2:(q.num.natAbs:Int)*p.den<=RR ^ L*RR ^ K:=Int.mul_le_mul F3 F3 F3 F3
 have a3:(p.den:Int)*q.den<=RR ^ K*RR ^ L:=Int.mul_le_mul F3 F3 F3 F3
 rw [Int.mul_comm (RR ^ L)] at a2
 have hKL:(0:Int)<RR ^ K*RR ^ L:=fE hK hL
 have hn:((p.num*q.den+q.num*p.den).natAbs:Int)<=(p.num.natAbs:Int)*q.den+(q.num.natAbs:Int)*p.den:=by
  have h1:=Int.natAbs_add_le (p.num*q.den) (q.num*p.den)
  rw [Int.natAbs_mul,Int.natAbs_mul] at h1
  simp only [Int.natAbs_natCast] at h1
  have:((p.num.natAbs*q.den+q.num.natAbs*p.den:Nat):Int)=(p.num.natAbs:Int)*q.den+(q.num.natAbs:Int)*p.den:=by
   rw [Int.natCast_add,Int.natCast_mul,Int.natCast_mul]
  omega
 rw [n7]
 constructor
 ·rw [Rat.num_divInt,Int.sign_eq_one_of_pos (fE dp dq),Int.one_mul]
  have:((p.num*q.den+q.num*p.den) / ((((p.den:Int)*q.den).gcd (p.num*q.den+q.num*p.den):Nat):Int)).natAbs<=(p.num*q.den+q.num*p.den).natAbs:=by
   rw [Int.natAbs_ediv_of_dvd (Int.gcd_dvd_right ..)]
   exact Nat.div_le_self ..
  omega
 rw [Rat.den_divInt,if_neg (by have:=fE dp dq;omega)]
 have:((p.den:Int)*q.den).natAbs / (((p.den:Int)*q.den).gcd (p.num*q.den+q.num*p.den))<=((p.den:Int)*q.den).natAbs:=Nat.div_le_self ..
 have:=fE dp dq
 omega
theorem tA (hv:RB RR v p) (hw:RB RR w q) (hp:Sz RR K p) (hq:Sz RR L q) (h:K+L<268435456):∃ r,Ev (fun k=>eu k v w) r/\RB RR r (p+q)/\Sz RR (K+L+1) (p+q):=by
 obtain ⟨lv1,lv2⟩:=im cF hv hp
 obtain ⟨lw1,lw2⟩:=im cF hw hq
 refine (show ∃ r,Ev (fun k=>eu k v w) r/\RB RR r (p+q) from ?_).elim fun r hr=>⟨r,hr.1,hr.2,sz_addR hp hq⟩
 obtain ⟨x,x1,x2,x3⟩:=Dr F3 hv.2.1 hw.2.2
 obtain ⟨y,y1,y2,y3⟩:=Dr F3 hw.2.1 hv.2.2
 obtain ⟨d,d1,d2,d3⟩:=Dr F3 hv.2.2 hw.2.2
 have hD:=fE (eB p) (eB q)
 have hadd:=n7 p q
 rw [<- ma hv,<- ma hw,lH,lH] at hadd
 generalize (p.num.natAbs:Int)*q.den=X at x2 hadd
 generalize (q.num.natAbs:Int)*p.den=Y at y2 hadd
 generalize (p.den:Int)*q.den=D at d2 hadd hD
 rw [hadd]
 by_cases hst:v.1=w.1
 ·obtain ⟨z,z1,z2,z3⟩:=s_Add F3 x2 y2
  obtain ⟨r,r1,r2⟩:=jK (s:=v.1) F3 F3 z2 d2 hD
  refine ⟨r,Ev.step (fun k=>fi k v w) (Ev.bind x1 (Ev.bind y1 (Ev.bind d1 (bT (by rw [hst];simp) (Ev.bind z1 (Ev.bind r1 (evs _))))))),?_⟩
  have:sg v.1 X+sg w.1 Y=sg v.1 (X+Y):=by rw [<- hst];unfold sg;cases v.1<;>simp<;>omega
  rw [this]
  exact r2
 have hc:=s_Cmp F3 x2 y2
 by_cases hxy:Y<=X
 ·obtain ⟨z,z1,z2,z3⟩:=s_Sub F3 x2 y2 hxy
  obtain ⟨r,r1,r2⟩:=jK (s:=v.1) F3 F3 z2 d2 hD
  refine ⟨r,Ev.step (fun k=>fi k v w) (Ev.bind x1 (Ev.bind y1 (Ev.bind d1 (bF (AK hst) (Ev.bind hc (bT (decide_eq_true ?_) (Ev.bind z1 (Ev.bind r1 (evs _))))))))),?_⟩
  ·unfold P.fa
   split
   ·omega
   split<;>omega
  have:sg v.1 X+sg w.1 Y=sg v.1 (X-Y):=by
   unfold sg
   generalize v.1=s at hst ⊢
   generalize w.1=t at hst ⊢
   cases s<;>cases t<;>simp at hst ⊢<;>omega
  rw [this]
  exact r2
 obtain ⟨z,z1,z2,z3⟩:=s_Sub F3 y2 x2 F3
 obtain ⟨r,r1,r2⟩:=jK (s:=w.1) F3 F3 z2 d2 hD
 refine ⟨r,Ev.step (fun k=>fi k v w) (Ev.bind x1 (Ev.bind y1 (Ev.bind d1 (bF (AK hst) (Ev.bind hc (bF (decide_eq_false ?_) (Ev.bind z1 (Ev.bind r1 (evs _))))))))),?_⟩
 ·unfold P.fa
  rw [if_pos F3]
  omega
 have:sg v.1 X+sg w.1 Y=sg w.1 (Y-X):=by
  unfold sg
  generalize v.1=s at hst ⊢
  generalize w.1=t at hst ⊢
  cases s<;>cases t<;>simp at hst ⊢<;>omega
 rw [this]
 exact r2
theorem Bu (hv:RB RR v p) (hw:RB RR w q) (hp:Sz RR K p) (hq:Sz RR L q) (h:K+L<268435456):∃ r,Ev (fun k=>ga k v w) r/\RB RR r (p-q)/\Sz RR (K+L+1) (p-q):=by
 obtain ⟨x,x1,x2,x3⟩:=Bv hw hq
 obtain ⟨r,r1,r2,r3⟩:=tA hv x2 hp x3 h
 rw [<- Rat.sub_eq_add_neg] at r2 r3
 exact ⟨r,Ev.step (fun k=>kL k v w) (Ev.bind x1 (Ev.bind r1 (evs _))),r2,r3⟩
theorem mB (hv:RB RR v p):Ev (fun k=>dO k v) (sgn p):=by
 refine Ev.step (fun k=>kq k v) ?_
 rw [uQ bh hv,hv.1]
 unfold sgn
 by_cases c:p=0
 ·refine bT (decide_eq_true c) ?_
  rw [if_neg (by rw [c];exact Rat.lt_irrefl),if_pos c]
  exact evs _
 refine bF (decide_eq_false c) ?_
 by_cases d:p<0
 ·rw [if_pos d]
  exact bT (decide_eq_true (jP.2 d)) (evs _)
 rw [if_neg d,if_neg c]
 exact bF (decide_eq_false (fun e=>d (jP.1 e))) (evs _)
theorem Dj (p q:Rat):sgn (p-q)=cmpq p q:=by
 unfold sgn cmpq
 by_cases h:p<q
 ·rw [if_pos h,if_pos (by grind)]
 rw [if_neg h,if_neg (by grind)]
 by_cases e:p=q
 ·rw [if_pos e,if_pos (by grind)]
 rw [if_neg e,if_neg (by grind)]
theorem Bz (hv:RB RR v p) (hw:RB RR w q) (hp:Sz RR K p) (hq:Sz RR L q) (h:K+L<268435456):Ev (fun k=>e8 k v w) (cmpq p q):=by
 obtain ⟨r,r1,r2,r3⟩:=Bu hv hw hp hq h
 have hs:=mB r2
 rw [Dj] at hs
 exact Ev.step (fun k=>kO k v w) (Ev.bind r1 (Ev.bind hs (evs _)))
theorem DA (hv:RB WW v p) (hp:Sz WW K p) (h:K<1073741824):∃ r,Ev (fun k=>gL k v) r/\RB RR r p/\Sz RR (4*K) p:=by
 obtain ⟨lv1,lv2⟩:=im bH hv hp
 obtain ⟨x,x1,x2,x3⟩:=s_Of F3 hv.2.1
 obtain ⟨y,y1,y2,y3⟩:=s_Of F3 hv.2.2
 have hr:RB RR (v.1,x,y,()) p:=⟨hv.1,x2,y2⟩
 exact ⟨_,Ev.step (fun k=>lZ k v) (Ev.bind x1 (Ev.bind y1 (evs _))),hr,Ba bh hr (by simp;omega) (by simp;omega)⟩
theorem Dy (hv:RB RR v p) (hp:Sz RR K p) (h:K<1073741824):∃ r,Ev (fun k=>dK k v) r/\RB WW r p:=by
 obtain ⟨lv1,lv2⟩:=im cF hv hp
 obtain ⟨x,x1,x2⟩:=Dn F3 hv.2.1
 obtain ⟨y,y1,y2⟩:=Dn F3 hv.2.2
 exact ⟨(v.1,x,y,()),Ev.step (fun k=>lY k v) (Ev.bind x1 (Ev.bind y1 (evs _))),hv.1,x2,y2⟩
theorem DM (a b:List Int) (hn:a.length<4611686018427387904):∃ r,Ev (fun k=>aA k a b) r/\(r=true↔a=b):=by
 obtain ⟨r,h1,h2⟩:=P.eq_sp a b hn
 exact ⟨r,Ev.step (fun k=>ic k a b) h1,h2⟩
theorem xU (v w:cf) (h1:v.2.1.length<4611686018427387904) (h2:v.2.2.1.length<4611686018427387904):Ev (fun k=>dP k v w) (decide (v=w)):=by
 obtain ⟨a,x,y,_⟩:=v
 obtain ⟨b,x',y',_⟩:=w
 obtain ⟨r,r1,r2⟩:=DM x x' h1
 obtain ⟨s,s1,s2⟩:=DM y y' h2
 have er:r=decide (x=x'):=by
  by_cases c:x=x'
  ·rw [decide_eq_true c];exact r2.2 c
  rw [decide_eq_false c];exact Bool.eq_false_iff.2 (fun e=>c (r2.1 e))
 have es:s=decide (y=y'):=by
  by_cases c:y=y'
  ·rw [decide_eq_true c];exact s2.2 c
  rw [decide_eq_false c];exact Bool.eq_false_iff.2 (fun e=>c (s2.1 e))
 have e:decide ((a,x,y,())=((b,x',y',()):cf))=((a==b)&&r&&s):=by
  rw [er,es]
  have:(a==b)=decide (a=b):=by cases a<;>cases b<;>rfl
  rw [this,<- Bool.decide_and,<- Bool.decide_and]
  refine decide_eq_decide.2 ?_
  simp [and_assoc]
 rw [e]
 refine Ev.step (fun k=>kr k _ _) (Ev.bind (a:=(a==b)&&r) ?_ (Ev.bind (a:=(a==b)&&r&&s) ?_ (evs _)))
 ·by_cases c:(a==b)=true
  ·rw [c]
   exact bT rfl (Ev.bind r1 (by rw [Bool.true_and];exact evs _))
  rw [Bool.eq_false_iff.2 c]
  exact bF rfl (evs _)
 by_cases c:((a==b)&&r)=true
 ·rw [c]
  exact bT rfl (Ev.bind s1 (by rw [Bool.true_and];exact evs _))
 rw [Bool.eq_false_iff.2 c]
 exact bF rfl (evs _)
end
def Arg (v:cf):Prop:=Dg WW v.2.1/\Dg WW v.2.2.1/\True/\True
def Vd (v:cf):Prop:=∃ q,RB WW v q/\Sz WW 4096 q
section
variable {v w:cf} {p q:Rat} {K L:Nat}
theorem yM (q:Rat):gI (q.num.natAbs:Int) q.den=1:=by
 unfold P.gI
 have:=q.reduced
 unfold Nat.Coprime at this
 simp only [Int.gcd,Int.natAbs_natCast,this]
 rfl
theorem CU {s:Bool} {a b:List Int} (da:Dg WW a) (db:Dg WW b):(∃ q,RB WW (s,a,b,()) q)↔Nm a/\Nm b/\vl WW b≠0/\(vl WW a=0->s=false/\vl WW b=1)/\(vl WW a≠0->gI (vl WW a) (vl WW b)=1):=by
 constructor
 ·rintro ⟨q,h1,h2,h3⟩
  have e2:vl WW a=(q.num.natAbs:Int):=h2.2.2
  have e3:vl WW b=(q.den:Int):=h3.2.2
  have dp:=eB q
  refine ⟨h2.2.1,h3.2.1,F3,fun h=>?_,fun h=>?_⟩
  ·have h0:q=0:=Rat.num_eq_zero.1 F3
   refine ⟨?_,?_⟩
   ·have:s=decide (q.num<0):=h1
    rw [this,h0];rfl
   rw [e3,h0];rfl
  rw [e2,e3]
  exact yM q
 rintro ⟨na,nb,hb,h0,h1⟩
 have a0:=P.bK aO da
 have b0:=P.bK aO db
 by_cases c:vl WW a=0
 ·obtain ⟨rfl,e⟩:=h0 c
  refine ⟨0,rfl,?_,?_⟩
  ·exact ⟨da,na,c⟩
  exact ⟨db,nb,e⟩
 have g:=h1 c
 refine ⟨Rat.divInt (sg s (vl WW a)) (vl WW b),qO F3 F3 ?_ ?_⟩
 ·rw [g,Int.ediv_one];exact ⟨da,na,rfl⟩
 rw [g,Int.ediv_one];exact ⟨db,nb,rfl⟩
theorem vd_iff (ha:Arg v):Vd v↔v.2.1.length<=4096/\v.2.2.1.length<=4096/\Nm v.2.1/\Nm v.2.2.1/\vl WW v.2.2.1≠0/\(vl WW v.2.1=0->v.1=false/\vl WW v.2.2.1=1)/\(vl WW v.2.1≠0->gI (vl WW v.2.1) (vl WW v.2.2.1)=1):=by
 obtain ⟨s,a,b,_⟩:=v
 have h:=CU (s:=s) ha.1 ha.2.1
 constructor
 ·rintro ⟨q,h1,h2⟩
  obtain ⟨l1,l2⟩:=im bH h1 h2
  exact ⟨l1,l2,h.1 ⟨q,h1⟩⟩
 rintro ⟨l1,l2,h3⟩
 obtain ⟨q,hq⟩:=h.2 h3
 exact ⟨q,hq,Ba aO hq l1 l2⟩
theorem vl0_iff {l:List Int} (hd:Dg WW l) (hn:Nm l):l.length=0↔vl WW l=0:=(show P.Can WW l (vl WW l) from ⟨hd,hn,rfl⟩).iU aO
theorem u7 {l:List Int} (hd:Dg WW l) (hn:Nm l):((List.length l:Int)==(0:Int))=decide (vl WW l=0):=by
 by_cases c:vl WW l=0
 ·have:=(vl0_iff hd hn).2 c
  rw [decide_eq_true c];simp [List.eq_nil_of_length_eq_zero this]
 rw [decide_eq_false c];exact nO aO ⟨hd,hn,rfl⟩ c
end
section
variable {v w:cf} {p q:Rat} {K L:Nat}
theorem cmpi_beq (x y:Int):(fa x y==(0:Int))=decide (x=y):=by
 unfold P.fa
 by_cases a:x<y
 ·rw [if_pos a,decide_eq_false F3];rfl
 by_cases b:x=y
 ·rw [if_neg a,if_pos b,decide_eq_true b];rfl
 rw [if_neg a,if_neg b,decide_eq_false b];rfl
theorem vU (v:cf) (N:Nat):Ev (fun k=>cw k v (N:Int)) (decide (v.2.1.length<=N/\v.2.2.1.length<=N)):=by
 refine Ev.step (fun k=>jW k v _) (Ev.bind ?_ (evs _))
 by_cases c:v.2.1.length<=N
 ·refine bT (decide_eq_true F3) ?_
  have:decide ((List.length v.2.2.1:Int)<=N)=decide (v.2.1.length<=N/\v.2.2.1.length<=N):=decide_eq_decide.2 F3
  rw [this]
  exact evs _
 have:decide (v.2.1.length<=N/\v.2.2.1.length<=N)=false:=decide_eq_false (fun h=>c h.1)
 rw [this]
 exact bF (decide_eq_false F3) (evs _)
theorem lG:(sgn q==(0:Int))=decide (q=0):=by
 rcases sgn_vals q with ⟨h1,h2⟩ | ⟨h1,h2⟩ | ⟨h1,h2⟩
 ·rw [h1,decide_eq_false (Rat.ne_of_lt h2)];rfl
 ·rw [h1,decide_eq_true h2];rfl
 rw [h1,decide_eq_false (Rat.ne_of_gt h2)];rfl
end
open Go.Proofs.YtfbgaddecbiimaaGreatDoor.P (dg_wf)
theorem C2:cS T=true:=by kernel_rfl
theorem mixed:T.P.follows .mixedOrders=true:=by kernel_rfl
theorem noGo0:(Tryz.prog.funcs.toList.all fun f=>f.name != "runtime.NumGoroutine")=true:=by kernel_rfl
theorem noGo (f:Nat) (fn:Func) (h:T.P.funcs[f]?=some fn):fn.name≠"runtime.NumGoroutine":=by
 have h1:=List.all_eq_true.1 noGo0 fn (by
  rw [Array.mem_toList_iff]
  exact Array.mem_of_getElem? h)
 simpa using h1
theorem arg_rat {y:cf} (h:Fine aq y):Arg y:=by
 obtain ⟨_,h1,h2,_⟩:=h
 exact ⟨dg_wf h1.2,dg_wf h2.2,trivial,trivial⟩
section
variable {v w:cf} {p q:Rat} {K L:Nat}
def down (n:Nat) (p:Rat):Rat:=((p*((2 ^ n:Int):Rat)).floor:Rat) / ((2 ^ n:Int):Rat)
end
def Ev3 {α:Type} (g:Nat->Nat->Nat->Option α) (r:α):Prop:=∃ K,∀ k m n,K<=k->K<=m->K<=n->g k m n=some r
section
variable {α β:Type} {g f:Nat->Nat->Nat->Option α} {r:α}
theorem Ev3.diag (h:Ev3 g r):Ev2 (fun k n=>g k k n) r:=by
 obtain ⟨K,h⟩:=h
 exact ⟨K,fun k n hk hn=>h k k n hk hk hn⟩
theorem Ev3.step (h:∀ k m n,g k (m+1) n=f k m n) (k:Ev3 f r):Ev3 g r:=by
 obtain ⟨K,k⟩:=k
 refine ⟨K+1,fun n m q hn hm hq=>?_⟩
 obtain ⟨p,rfl⟩:∃ p,m=p+1:=⟨m-1,F3⟩
 rw [h]
 exact k n p q F3 F3 F3
theorem Ev3.bind {g:Nat->Option β} {f:Nat->Nat->Nat->β->Option α} {a:β} (h:Ev g a) (k:Ev3 (fun n m q=>f n m q a) r):Ev3 (fun n m q=>(g n).bind (f n m q)) r:=by
 obtain ⟨K,h⟩:=h
 obtain ⟨K',k⟩:=k
 refine ⟨max K K',fun n m q hn hm hq=>?_⟩
 have h1:=h n F3
 simp only [h1,Option.bind_some]
 exact k n m q F3 F3 F3
theorem Ev3.bT {c:Bool} (hc:c=true) (h:Ev3 f r):Ev3 (fun k m n=>bif c then f k m n else g k m n) r:=by subst hc;exact h
theorem Ev3.bF {c:Bool} (hc:c=false) (h:Ev3 g r):Ev3 (fun k m n=>bif c then f k m n else g k m n) r:=by subst hc;exact h
theorem Ev3.iT {c:Prop} [Decidable c] (hc:c) (h:Ev3 f r):Ev3 (fun k m n=>if c then f k m n else none) r:=by simpa only [if_pos hc] using h
theorem Ev3.of {g:Nat->Nat->Option α} (h:Ev2 g r):Ev3 (fun k _ n=>g k n) r:=by
 obtain ⟨K,h⟩:=h
 exact ⟨K,fun k m n hk _ hn=>h k n hk hn⟩
end
def VN (N:Nat) (v:cf):Prop:=∃ q,RB WW v q/\Sz WW N q
section
variable {v w:cf} {p q:Rat} {K L:Nat}
theorem r_valid (l:List Int):∃ b,P.bD.f l=some b/\(b=true↔l.length<=4096/\Nm l):=by
 unfold P.bD.f
 by_cases h1:l.length<=4096
 ·by_cases h0:l.length=0
  ·refine ⟨true,by rw [if_pos F3,if_pos F3],?_⟩
   have:l=[]:=List.eq_nil_of_length_eq_zero h0
   subst this
   simp
   exact P.Nm.nil
  have e:wrap64 ((l.length:Int)-1)=(l.length:Int)-1:=w64 F3 F3
  rw [e,if_pos F3,if_neg F3,if_pos F3,if_pos F3]
  refine ⟨_,rfl,?_⟩
  simp only [bne_iff_ne]
  constructor
  ·intro h
   exact ⟨h1,P.nL (fun _=>h)⟩
  intro h
  exact h.2.rd F3
 refine ⟨false,by rw [if_neg F3],?_⟩
 simp
 omega
theorem Dp (l:List Int) (hl:True):∃ t,Ev (fun k=>bD k l) t/\(t=true↔l.length<=4096/\Nm l):=by
 obtain ⟨t,h1,h3⟩:=r_valid l
 exact ⟨t,Ev.step (fun k=>jY k l) (evk h1),h3⟩
theorem vR (ha:Arg v):∃ t,Ev (fun k=>eG k v) t/\(t=true↔Vd v):=by
 have hiff:=vd_iff ha
 obtain ⟨da,db,la,lb⟩:=ha
 obtain ⟨s,a,b,_⟩:=v
 obtain ⟨t1,e1,i1⟩:=Dp a la
 obtain ⟨t2,e2,i2⟩:=Dp b lb
 by_cases c1:a.length<=4096/\Nm a
 ·by_cases c2:b.length<=4096/\Nm b
  ·obtain rfl:=i1.2 c1
   obtain rfl:=i2.2 c2
   have hb0:=u7 db c2.2
   have ca:P.Can WW a (vl WW a):=⟨da,c1.2,rfl⟩
   have cb:P.Can WW b (vl WW b):=⟨db,c2.2,rfl⟩
   have h1:=yI cb
   by_cases c3:vl WW b=0
   ·refine ⟨false,Ev.step (fun k=>dE k _) (Ev.bind e1 (Ev.bind (a:=false) (bF rfl (Ev.bind e2 (evs _))) (Ev.bind (a:=true) (bF rfl ?_) (bT rfl (evs _))))),?_⟩
    ·rw [hb0,decide_eq_true c3];exact evs _
    rw [hiff];simp [c3]
   refine (?_:∃ t,Ev (fun k=>bif (List.length a:Int)==(0:Int) then _ else _) t/\_).elim fun t h=>⟨t,Ev.step (fun k=>dE k _) (Ev.bind e1 (Ev.bind (a:=false) (bF rfl (Ev.bind e2 (evs _))) (Ev.bind (a:=false) (bF rfl ?_) (bF rfl h.1)))),h.2⟩
   ·by_cases c4:vl WW a=0
    ·have ha0:((List.length a:Int)==(0:Int))=true:=by rw [u7 da c1.2];exact decide_eq_true c4
     cases s with
     | true =>
      refine ⟨false,bT ha0 (Ev.bind (a:=false) (bF rfl (evs _)) (Ev.bind (bF rfl (evs _)) (evs _))),?_⟩
      rw [hiff];simp [c4]
     | false =>
      refine ⟨decide (vl WW b=1),bT ha0 ?_,?_⟩
      ·by_cases c5:((List.length b:Int)==(1:Int))=true
       ·rw [c5] at h1
        refine Ev.bind (a:=true) (bT rfl (by rw [show (List.length (false,a,b,()).2.2.1:Int)=(List.length b:Int) from rfl,c5];exact evs _)) (Ev.bind (bT rfl ?_) (evs _))
        have h1':(if 0<=(0:Int)/\(0:Int)<(List.length b:Int) then some ((rdT (t:=(.int .u32)) b (0:Int):Int)==(1:Int)) else none)=some (decide (vl WW b=1)):=h1
        exact evk h1'
       have c6:=Bool.eq_false_iff.2 c5
       rw [c6] at h1
       have h1':some false=some (decide (vl WW b=1)):=h1
       rw [<- Option.some.inj h1']
       exact Ev.bind (a:=false) (bT rfl (by rw [show (List.length (false,a,b,()).2.2.1:Int)=(List.length b:Int) from rfl,c6];exact evs _)) (Ev.bind (bF rfl (evs _)) (evs _))
      rw [hiff,decide_eq_true_eq]
      simp [c4,c1,c2,c3]
    have ha0:((List.length a:Int)==(0:Int))=false:=nO aO ca c4
    obtain ⟨x,x1,x2,x3⟩:=s_Of F3 ca
    obtain ⟨y,y1,y2,y3⟩:=s_Of F3 cb
    obtain ⟨g,g1,g2⟩:=s_GCD F3 F3 x2 y2
    have b0:0<vl WW b:=by
     have h0:(0:Int)<=vl WW b:=P.bK aO db
     omega
    have gl:g.length<4611686018427387904:=by
     have:=g2.gC cF (Int.lt_of_le_of_lt (P.gI_le b0) (y2.lt bh))
     omega
    have h2:=s_Cmp gl g2 (can1 cF)
    refine ⟨decide (gI (vl WW a) (vl WW b)=1),bF ha0 (Ev.bind x1 (Ev.bind y1 (Ev.bind g1 (Ev.bind h2 ?_)))),?_⟩
    ·rw [cmpi_beq];exact evs _
    rw [hiff,decide_eq_true_eq]
    simp [c4,c1,c2,c3]
   rw [hb0,decide_eq_false c3];exact evs _
  obtain rfl:=i1.2 c1
  have:t2=false:=Bool.eq_false_iff.2 (fun e=>c2 (i2.1 e))
  subst this
  refine ⟨false,Ev.step (fun k=>dE k _) (Ev.bind e1 (Ev.bind (a:=true) (bF rfl (Ev.bind e2 (evs _))) (Ev.bind (a:=true) (bT rfl (evs _)) (bT rfl (evs _))))),?_⟩
  rw [hiff]
  simp
  intro h1 h2 h3 h4
  exact absurd ⟨h2,h4⟩ c2
 have:t1=false:=Bool.eq_false_iff.2 (fun e=>c1 (i1.1 e))
 subst this
 refine ⟨false,Ev.step (fun k=>dE k _) (Ev.bind e1 (Ev.bind (a:=true) (bT rfl (evs _)) (Ev.bind (a:=true) (bT rfl (evs _)) (bT rfl (evs _))))),?_⟩
 rw [hiff]
 simp
 intro h1 h2 h3 h4
 exact absurd ⟨h1,h3⟩ c1
theorem vn_iff (N:Nat) (ha:Arg v):VN N v↔v.2.1.length<=N/\v.2.2.1.length<=N/\Nm v.2.1/\Nm v.2.2.1/\vl WW v.2.2.1≠0/\(vl WW v.2.1=0->v.1=false/\vl WW v.2.2.1=1)/\(vl WW v.2.1≠0->gI (vl WW v.2.1) (vl WW v.2.2.1)=1):=by
 obtain ⟨s,a,b,_⟩:=v
 have h:=CU (s:=s) ha.1 ha.2.1
 constructor
 ·rintro ⟨q,h1,h2⟩
  obtain ⟨l1,l2⟩:=im bH h1 h2
  exact ⟨l1,l2,h.1 ⟨q,h1⟩⟩
 rintro ⟨l1,l2,h3⟩
 obtain ⟨q,hq⟩:=h.2 h3
 exact ⟨q,hq,Ba aO hq l1 l2⟩
theorem rp (N:Nat) (hN:N<=4096) (l:List Int):∃ t,Ev (fun k=>iQ k l (N:Int)) t/\(t=true↔l.length<=N/\Nm l):=by
 by_cases h1:l.length<=N
 ·by_cases h0:l.length=0
  ·have:l=[]:=List.eq_nil_of_length_eq_zero h0
   subst this
   exact ⟨true,Ev.step (fun k=>kG k _ _) (Ev.bind (bT rfl (Ev.bind (bT rfl (evs _)) (evs _))) (evs _)),by simp;exact P.Nm.nil⟩
  have e:wrap64 ((l.length:Int)-1)=(l.length:Int)-1:=w64 F3 F3
  refine ⟨rd l ((l.length:Int)-1) != 0,Ev.step (fun k=>kG k _ _) (Ev.bind (bT (decide_eq_true F3) (Ev.bind (bF (by simp;intro e;exact h0 (by simp [e])) ?_) (evs _))) (evs _)),?_⟩
  ·rw [e]
   exact iT F3 (evs _)
  simp only [bne_iff_ne]
  exact ⟨fun h=>⟨h1,P.nL (fun _=>h)⟩,fun h=>h.2.rd F3⟩
 exact ⟨false,Ev.step (fun k=>kG k _ _) (Ev.bind (bF (decide_eq_false F3) (evs _)) (evs _)),by simp;omega⟩
theorem yt (N:Nat) (hN:N<=4096) (ha:Arg v):∃ t,Ev (fun k=>ef k v (N:Int)) t/\(t=true↔VN N v):=by
 have hiff:=vn_iff N ha
 obtain ⟨da,db,la,lb⟩:=ha
 obtain ⟨s,a,b,_⟩:=v
 obtain ⟨t1,e1,i1⟩:=rp N hN a
 obtain ⟨t2,e2,i2⟩:=rp N hN b
 show ∃ t,Ev (fun k=>ef k (s,a,b,()) (N:Int)) t/\(t=true↔VN N (s,a,b,()))
 by_cases c1:a.length<=N/\Nm a
 ·by_cases c2:b.length<=N/\Nm b
  ·obtain rfl:=i1.2 c1
   obtain rfl:=i2.2 c2
   have hb0:=u7 db c2.2
   have ca:P.Can WW a (vl WW a):=⟨da,c1.2,rfl⟩
   have cb:P.Can WW b (vl WW b):=⟨db,c2.2,rfl⟩
   have h1:=yI cb
   by_cases c3:vl WW b=0
   ·refine ⟨false,Ev.step (fun k=>jj k _ _) (Ev.bind e1 (Ev.bind (a:=false) (bF rfl (Ev.bind e2 (evs _))) (Ev.bind (a:=true) (bF rfl ?_) (bT rfl (evs _))))),?_⟩
    ·rw [hb0,decide_eq_true c3];exact evs _
    rw [hiff];simp [c3]
   refine (?_:∃ t,Ev (fun k=>bif (List.length a:Int)==(0:Int) then _ else _) t/\_).elim fun t h=>⟨t,Ev.step (fun k=>jj k _ _) (Ev.bind e1 (Ev.bind (a:=false) (bF rfl (Ev.bind e2 (evs _))) (Ev.bind (a:=false) (bF rfl ?_) (bF rfl h.1)))),h.2⟩
   ·by_cases c4:vl WW a=0
    ·have ha0:((List.length a:Int)==(0:Int))=true:=by rw [u7 da c1.2];exact decide_eq_true c4
     cases s with
     | true =>
      refine ⟨false,bT ha0 (Ev.bind (a:=false) (bF rfl (evs _)) (Ev.bind (bF rfl (evs _)) (evs _))),?_⟩
      rw [hiff];simp [c4]
     | false =>
      refine ⟨decide (vl WW b=1),bT ha0 ?_,?_⟩
      ·by_cases c5:((List.length b:Int)==(1:Int))=true
       ·rw [c5] at h1
        refine Ev.bind (a:=true) (bT rfl (by rw [show (List.length (false,a,b,()).2.2.1:Int)=(List.length b:Int) from rfl,c5];exact evs _)) (Ev.bind (bT rfl ?_) (evs _))
        have h1':(if 0<=(0:Int)/\(0:Int)<(List.length b:Int) then some ((rdT (t:=(.int .u32)) b (0:Int):Int)==(1:Int)) else none)=some (decide (vl WW b=1)):=h1
        exact evk h1'
       have c6:=Bool.eq_false_iff.2 c5
       rw [c6] at h1
       have h1':some false=some (decide (vl WW b=1)):=h1
       rw [<- Option.some.inj h1']
       exact Ev.bind (a:=false) (bT rfl (by rw [show (List.length (false,a,b,()).2.2.1:Int)=(List.length b:Int) from rfl,c6];exact evs _)) (Ev.bind (bF rfl (evs _)) (evs _))
      rw [hiff,decide_eq_true_eq]
      simp [c4,c1,c2,c3]
    have ha0:((List.length a:Int)==(0:Int))=false:=nO aO ca c4
    by_cases c5:vl WW b=1
    ·refine ⟨true,bF ha0 (Ev.bind (evk h1) (bT (decide_eq_true c5) (evs _))),?_⟩
     rw [hiff]
     have:gI (vl WW a) 1=1:=by unfold P.gI;simp
     simp [c4,c1,c2,c5,this]
    obtain ⟨g,g1,g2⟩:=q_GCD F3 F3 ca cb
    have h2:=yI g2
    refine ⟨decide (gI (vl WW a) (vl WW b)=1),bF ha0 (Ev.bind (evk h1) (bF (decide_eq_false c5) (Ev.bind g1 (Ev.bind (evk h2) (evs _))))),?_⟩
    rw [hiff,decide_eq_true_eq]
    simp [c4,c1,c2,c3]
   rw [hb0,decide_eq_false c3];exact evs _
  obtain rfl:=i1.2 c1
  have:t2=false:=Bool.eq_false_iff.2 (fun e=>c2 (i2.1 e))
  subst this
  refine ⟨false,Ev.step (fun k=>jj k _ _) (Ev.bind e1 (Ev.bind (a:=true) (bF rfl (Ev.bind e2 (evs _))) (Ev.bind (a:=true) (bT rfl (evs _)) (bT rfl (evs _))))),?_⟩
  rw [hiff]
  simp
  intro h1 h2 h3 h4
  exact absurd ⟨h2,h4⟩ c2
 have:t1=false:=Bool.eq_false_iff.2 (fun e=>c1 (i1.1 e))
 subst this
 refine ⟨false,Ev.step (fun k=>jj k _ _) (Ev.bind e1 (Ev.bind (a:=true) (bT rfl (evs _)) (Ev.bind (a:=true) (bT rfl (evs _)) (bT rfl (evs _))))),?_⟩
 rw [hiff]
 simp
 intro h1 h2 h3 h4
 exact absurd ⟨h1,h3⟩ c1
end
noncomputable def dc (p:Prop):Bool:=@decide p (Classical.propDecidable p)
theorem fk {p:Prop} (h:p):dc p=true:=@decide_eq_true p (Classical.propDecidable p) h
theorem dj {p:Prop} (h:¬ p):dc p=false:=@decide_eq_false p (Classical.propDecidable p) h
theorem dc_iff {p:Prop}:dc p=true↔p:=@decide_eq_true_iff p (Classical.propDecidable p)
theorem E0 {p:Prop} {t:Bool} (h:t=true↔p):t=dc p:=by
 cases t with
 | true=>exact (fk (h.1 rfl)).symm
 | false=>exact (dj (fun hp=>by have:=h.2 hp;cases this)).symm
theorem cT {t:Ty} {l:List t.den} {i:Nat} (h:i<l.length):rdT l (i:Int)=l[i]:=by
 simp [rdT,h]
theorem mi {i:Nat} (h:i<9223372036854775807):wrap64 ((i:Int)+1)=((i+1:Nat):Int):=by
 rw [w64 F3 F3];omega
section
variable {v w:cf} {p q:Rat} {K L:Nat}
theorem wz (N:Nat) (hN:N<=4096) (ha:Arg v):Ev (fun k=>ef k v (N:Int)) (dc (VN N v)):=by
 obtain ⟨t,h1,h2⟩:=yt N hN ha
 rw [<- E0 h2]
 exact h1
theorem zh {N:Nat} (hN:N<=4096) (ha:Arg v):VN N v↔(v.2.1.length<=N/\v.2.2.1.length<=N)/\Vd v:=by
 constructor
 ·rintro ⟨q,h1,h2⟩
  exact ⟨im bH h1 h2,q,h1,ox aO h2 hN⟩
 rintro ⟨⟨h1,h2⟩,q,h3,h4⟩
 exact ⟨q,h3,Ba aO h3 h1 h2⟩
theorem vS (ha:Arg v):Ev (fun k=>eG k v) (dc (Vd v)):=by
 obtain ⟨t,h1,h2⟩:=vR ha
 rw [<- E0 h2]
 exact h1
end
theorem dnw {n:Nat} {P:Nat->Prop} (hn:P n) (hs:∀ i,i<n->P (i+1)->P i):∀ i,i<=n->P i:=by
 have key:∀ d i,n-i=d->i<=n->P i:=by
  intro d
  induction d with
  | zero =>
   intro i hd hi;have:i=n:=F3
   subst this;exact hn
  | succ d ih=>intro i hd hi;exact hs i F3 (ih (i+1) F3 F3)
 exact fun i hi=>key (n-i) i rfl hi
theorem gP {α:Type} {l:List α} {i:Nat} (h:i<l.length):l.drop i=l[i] :: l.drop (i+1):=List.drop_eq_getElem_cons h
theorem BP (x y:List Int) (h:x.length<=y.length) (hy:y.length<=9223372036854775807):Ev (fun k=>eV k x y) (eO x y):=by
 have main:=dnw (n:=x.length) (P:=fun i=>Ev2 (fun k m=>eV.l0 k m y x (x.length:Int) (i:Int)) (eO (x.drop i) (y.drop i))) ?_ ?_ 0 (Nat.zero_le _)
 ·exact Ev.step (fun k=>BQ k x y) main.diag
 ·rw [List.drop_length]
  exact Ev2.step (fun k m=>eV.aV k m _ _ _ _) (Ev2.bF (decide_eq_false F3) (Ev2.of (evs _)))
 intro i hi ih
 have hiy:i<y.length:=F3
 have e1:(rdT (t:=(.int .i64)) x (i:Int):Int)=x[i]:=cT hi
 have e2:(rdT (t:=(.int .i64)) y (i:Int):Int)=y[i]:=cT hiy
 rw [gP hi,gP hiy]
 refine Ev2.step (fun k m=>eV.aV k m _ _ _ _) (Ev2.bT (decide_eq_true F3) (Ev2.iT F3 (Ev2.iT F3 ?_)))
 rw [e1,e2]
 by_cases c:x[i]=y[i]
 ·have ce:eO (x[i] :: x.drop (i+1)) (y[i] :: y.drop (i+1))=eO (x.drop (i+1)) (y.drop (i+1)):=by simp only [eO,if_pos c]
  rw [ce]
  refine Ev2.bF (by simp [c]) ?_
  rw [mi F3]
  exact ih
 refine Ev2.bT (by simp [c]) (Ev2.iT F3 ?_)
 by_cases d:x[i]<y[i]
 ·have ce:eO (x[i] :: x.drop (i+1)) (y[i] :: y.drop (i+1)) = -1:=by simp only [eO,if_neg c,if_pos d]
  rw [ce]
  exact Ev2.bT (decide_eq_true d) (Ev2.of (evs _))
 have ce:eO (x[i] :: x.drop (i+1)) (y[i] :: y.drop (i+1))=1:=by simp only [eO,if_neg c,if_neg d]
 rw [ce]
 exact Ev2.bF (decide_eq_false d) (Ev2.of (evs _))
def sE:List Int->Int
 | []=>0
 | x :: l=>x+sE l
theorem qJ:∀ a b,sE (a++b)=sE a+sE b
 | [],b=>by simp [sE]
 | x :: a,b=>by rw [List.cons_append,sE,sE,qJ a b];omega
theorem kx {l:List Int} {i:Nat} (h:i<l.length):sE (l.take (i+1))=sE (l.take i)+l[i]:=by
 rw [List.take_succ_eq_append_getElem h,qJ];simp [sE]
theorem qa {B:Int} (hB:0<=B):∀ {l:List Int},(∀ x∈l,0<=x/\x<=B)->0<=sE l/\sE l<=B*l.length
 | [],_=>by simp [sE]
 | x :: l,h=>by
  have h1:=qa hB (l:=l) (fun y hy=>h y (by simp [hy]))
  have h2:=h x F4
  have e:B*((x :: l).length:Int)=B*l.length+B:=by simp only [List.length_cons];grind
  simp only [sE]
  omega
abbrev fF (x:List Int):List Int:=fS (0:Int) 8 x
theorem dw {α:Type} (z:α):∀ (n:Nat) (l:List α),(fS z n l).length=n
 | 0,l=>rfl
 | n+1,[]=>by simp [fS,dw z n]
 | n+1,a :: l=>by simp [fS,dw z n]
theorem cx {α:Type} (z:α):∀ (n:Nat) (l:List α),l.length<=n->fS z n l=l++List.replicate (n-l.length) z
 | 0,[],_=>rfl
 | 0,_ :: _,h=>by simp at h
 | n+1,[],_=>by
  have:=cx z n [] (Nat.zero_le _)
  simp only [fS,this,List.nil_append,List.length_nil,Nat.sub_zero]
  rfl
 | n+1,a :: l,h=>by
  have:=cx z n l (by simpa using h)
  simp only [fS,this,List.cons_append,List.length_cons,Nat.add_sub_add_right]
theorem Ds:∀ n,sE (List.replicate n (0:Int))=0
 | 0=>rfl
 | n+1=>by rw [List.replicate_succ,sE,Ds n];rfl
theorem sE_pad {x:List Int} (h:x.length<=8):sE (fF x)=sE x:=by
 rw [fF,cx _ _ _ h,qJ,Ds];omega
theorem xi (n m:Nat):∀ x y:List Int,x.length=y.length->eO (x++List.replicate n 0) (y++List.replicate n 0)=eO x y
 | [],[],_=>by
  show eO (List.replicate n 0) (List.replicate n 0)=0
  exact se _
 | [],_ :: _,h=>by simp at h
 | _ :: _,[],h=>by simp at h
 | a :: x,b :: y,h=>by
  simp only [List.cons_append,eO,xi n m x y (by simpa using h)]
theorem AF {x y:List Int} (hx:x.length<=8) (h:x.length=y.length):eO (fF x) (fF y)=eO x y:=by
 rw [fF,fF,cx _ _ _ hx,cx _ _ _ F3,<- h]
 exact xi _ 0 x y h
theorem qM {e:List Int} (he:e.length=8) {i:Nat} (hi:i<8):rdA (0:Int) 8 e (i:Int)=e[i]:=by
 simp only [rdA,Int.toNat_natCast,Nat.mod_eq_of_lt hi]
 rw [List.getD_eq_getElem?_getD,List.getElem?_eq_getElem F3]
 rfl
theorem zD (u:Int):∀ (l:List Int) (i:Nat),i<l.length->setA (0:Int) u l i=l.set i u
 | [],i,h=>by simp at h
 | _ :: l,0,_=>rfl
 | a :: l,i+1,h=>by
  show a :: setA (0:Int) u l i=a :: l.set i u
  rw [zD u l i (by simpa using h)]
theorem C8 {e:List Int} (he:e.length=8) {i:Nat} (hi:i<8) (u:Int):stA (0:Int) 8 e (i:Int) u=e.set i u:=by
 simp only [stA,Int.toNat_natCast,Nat.mod_eq_of_lt hi]
 exact zD u e i F3
theorem kB (e:List Int) (he:e.length=8) (hb:∀ x∈e,0<=x/\x<=1000000):Ev (fun k=>bL k e) (sE e):=by
 have hs:∀ i,0<=sE (e.take i)/\sE (e.take i)<=1000000*8:=fun i=>by
  have:=qa (B:=1000000) F3 (l:=e.take i) (fun x hx=>hb x (List.mem_of_mem_take hx))
  have h2:((e.take i).length:Int)<=8:=by rw [List.length_take];omega
  omega
 have main:=dnw (n:=8) (P:=fun i=>Ev2 (fun k m=>bL.l0 k m (sE (e.take i)) e (i:Int)) (sE e)) ?_ ?_ 0 F3
 ·exact Ev.step (fun k=>jT k e) main.diag
 ·have:e.take 8=e:=List.take_of_length_le F3
  rw [this]
  exact Ev2.step (fun k m=>bL.aV k m _ _ _) (Ev2.bF (decide_eq_false F3) (Ev2.of (evs _)))
 intro i hi ih
 refine Ev2.step (fun k m=>bL.aV k m _ _ _) (Ev2.bT (decide_eq_true F3) (Ev2.iT F3 ?_))
 rw [qM he hi,<- kx F3,mi F3]
 have:=hs (i+1)
 rw [w64 F3 F3]
 exact ih
theorem nh (a b:List Int) (ha:a.length=8) (hb:b.length=8):Ev (fun k=>bm k a b) (decide (eO a b>0)):=by
 have main:=dnw (n:=8) (P:=fun i=>Ev2 (fun k m=>bm.l0 k m (i:Int) a b) (decide (eO (a.drop i) (b.drop i)>0))) ?_ ?_ 0 F3
 ·exact Ev.step (fun k=>jC k a b) main.diag
 ·rw [List.drop_of_length_le F3]
  exact Ev2.step (fun k m=>bm.aV k m _ _ _) (Ev2.bF (decide_eq_false F3) (Ev2.of (evs _)))
 intro i hi ih
 have hia:i<a.length:=F3
 have hib:i<b.length:=F3
 rw [gP hia,gP hib]
 refine Ev2.step (fun k m=>bm.aV k m _ _ _) (Ev2.bT (decide_eq_true F3) (Ev2.iT F3 (Ev2.iT F3 ?_)))
 rw [qM ha hi,qM hb hi]
 by_cases c:a[i]=b[i]
 ·have ce:eO (a[i] :: a.drop (i+1)) (b[i] :: b.drop (i+1))=eO (a.drop (i+1)) (b.drop (i+1)):=by simp only [eO,if_pos c]
  rw [ce]
  refine Ev2.bF (by simp [c]) ?_
  rw [mi F3]
  exact ih
 refine Ev2.bT (by simp [c]) (Ev2.iT F3 (Ev2.iT F3 ?_))
 have ce:decide (eO (a[i] :: a.drop (i+1)) (b[i] :: b.drop (i+1))>0)=decide (a[i]>b[i]):=by
  simp only [eO,if_neg c]
  by_cases d:a[i]<b[i]
  ·rw [if_pos d,decide_eq_false F3,decide_eq_false F3]
  rw [if_neg d,decide_eq_true F3,decide_eq_true F3]
 rw [ce]
 exact Ev2.of (evs _)
theorem xf {c:Prop} [Decidable c] (h:¬ c):Ev (fun _=>some (decide c)) false:=by rw [decide_eq_false h];exact evs _
theorem ET {c:Prop} [Decidable c] (h:c):Ev (fun _=>some (decide c)) true:=by rw [decide_eq_true h];exact evs _
def ArgM (t:aw):Prop:=t.1.length<=9223372036854775807/\Arg t.2.1
def xw (p:aT):Prop:=p.2.1.length<=9223372036854775807/\∀ t∈p.2.1,ArgM t
structure TermOk (N:Int) (t:aw):Prop where
 len:(t.1.length:Int)=N
 ex:∀ x∈t.1,0<=x/\x<=40
 sum:sE t.1<=40
 co:VN 200 t.2.1
 ne:t.2.1.2.1.length≠0
abbrev tmA (p:aT) (i:Nat):aw:=rdT (t:=ai) p.2.1 (i:Int)
def sC (p:aT) (i:Nat):Prop:=TermOk p.1 (tmA p i)/\(0<i->eO (tmA p (i-1)).1 (tmA p i).1>0)
structure dI (p:aT):Prop where
 n0:0<=p.1
 n8:p.1<=8
 few:p.2.1.length<=4000
 good:∀ i,i<p.2.1.length->sC p i
theorem xA {p:aT} (ha:xw p) {i:Nat} (hi:i<p.2.1.length):ArgM (tmA p i):=by
 have:tmA p i=p.2.1[i]:=cT hi
 rw [this]
 exact ha.2 _ (List.getElem_mem _)
theorem yv (v:cf) (N:Nat):Ev (fun k=>lK k v (N:Int)) (decide (v.2.1.length<=N/\v.2.2.1.length<=N)):=by
 by_cases c:v.2.1.length<=N
 ·by_cases d:v.2.2.1.length<=N
  ·rw [decide_eq_true ⟨c,d⟩]
   exact Ev.step (fun k=>mI k v _) (Ev.bind (a:=true) (bT (decide_eq_true F3) (by rw [show decide ((v.2.2.1.length:Int)<=(N:Int))=true from decide_eq_true F3];exact evs _)) (evs _))
  rw [decide_eq_false (fun h=>d h.2)]
  exact Ev.step (fun k=>mI k v _) (Ev.bind (a:=false) (bT (decide_eq_true F3) (by rw [show decide ((v.2.2.1.length:Int)<=(N:Int))=false from decide_eq_false F3];exact evs _)) (evs _))
 rw [decide_eq_false (fun h=>c h.1)]
 exact Ev.step (fun k=>mI k v _) (Ev.bind (a:=false) (bF (decide_eq_false F3) (evs _)) (evs _))
theorem wA (v:cf):∃ s,Ev (fun k=>jk k v) s/\((s==(0:Int))=decide (v.2.1.length=0)):=by
 by_cases c:v.2.1.length=0
 ·refine ⟨0,Ev.step (fun k=>jQ k v) (bT (by simp [c]) (evs _)),by rw [decide_eq_true c];rfl⟩
 have hc:((List.length v.2.1:Int)==(0:Int))=false:=by simp;intro h;exact c (by rw [h];rfl)
 cases hs:v.1 with
 | true=>exact ⟨-1,Ev.step (fun k=>jQ k v) (bF hc (bT hs (evs _))),by rw [decide_eq_false c];rfl⟩
 | false=>exact ⟨1,Ev.step (fun k=>jQ k v) (bF hc (bF hs (evs _))),by rw [decide_eq_false c];rfl⟩
theorem vn_len {N:Nat} {v:cf} (h:VN N v):v.2.1.length<=N/\v.2.2.1.length<=N:=by
 obtain ⟨q,h1,h2⟩:=h
 exact im bH h1 h2
section
variable {p:aT} {i:Nat}
theorem AX (ha:xw p) (hi:i<p.2.1.length) (hl:(tmA p i).1.length<=9223372036854775807) (hp:0<i->(tmA p (i-1)).1.length<=(tmA p i).1.length) {r:Bool} (hr:(sE (tmA p i).1<=40/\(0<i->eO (tmA p (i-1)).1 (tmA p i).1>0)/\VN 200 (tmA p i).2.1)->Ev2 (fun k m=>bu.l0 k m p.2.1 (p.2.1.length:Int) ((i+1:Nat):Int) p) r) (hf:¬ (sE (tmA p i).1<=40/\(0<i->eO (tmA p (i-1)).1 (tmA p i).1>0)/\VN 200 (tmA p i).2.1)->r=false) :
 Ev2 (fun k m0=>(bif decide (sE (tmA p i).1>(40:Int)) then some true else (bif decide ((i:Int)>(0:Int)) then if 0<=(wrap64 ((i:Int)-(1:Int)))/\(wrap64 ((i:Int)-(1:Int)))<(List.length p.2.1:Int) then (eV k ((rdT (t:=ai) p.2.1 (wrap64 ((i:Int)-(1:Int))):aw).1) (tmA p i).1).bind fun (v8:Int) =>
  some (decide (v8<=(0:Int))) else none else some false).bind fun (b9:Bool) =>
  some b9).bind fun (b10:Bool) =>
  (bif b10 then some true else (ef k (tmA p i).2.1 (200:Int)).bind fun (v11:Bool) =>
  some (!v11)).bind fun (b12:Bool) =>
  bif b12 then
   some false
  else
   bu.l0 k m0 p.2.1 (p.2.1.length:Int) (wrap64 ((i:Int)+(1:Int))) p) r:=by
 have hlen:=ha.1
 have hv:Ev (fun k=>ef k (tmA p i).2.1 (200:Int)) (dc (VN 200 (tmA p i).2.1)):=wz 200 F3 (xA ha hi).2
 by_cases c1:sE (tmA p i).1>40
 ·rw [hf (fun h=>F3)]
  exact Ev2.bind (a:=true) (bT (decide_eq_true c1) (evs _)) (Ev2.bind (a:=true) (bT rfl (evs _)) (Ev2.bT rfl (Ev2.of (evs _))))
 have h2:Ev (fun k=>(bif decide ((i:Int)>(0:Int)) then if 0<=(wrap64 ((i:Int)-(1:Int)))/\(wrap64 ((i:Int)-(1:Int)))<(List.length p.2.1:Int) then (eV k ((rdT (t:=ai) p.2.1 (wrap64 ((i:Int)-(1:Int))):aw).1) (tmA p i).1).bind fun (v8:Int)=>some (decide (v8<=(0:Int))) else none else some false)) (dc (¬ (0<i->eO (tmA p (i-1)).1 (tmA p i).1>0))):=by
  by_cases c0:0<i
  ·have e1:wrap64 ((i:Int)-1)=((i-1:Nat):Int):=by rw [w64 F3 F3];omega
   rw [e1]
   refine bT (decide_eq_true F3) (iT F3 (Ev.bind (BP _ _ (hp c0) hl) ?_))
   have:decide (eO (tmA p (i-1)).1 (tmA p i).1<=0)=dc (¬ (0<i->eO (tmA p (i-1)).1 (tmA p i).1>0)):=E0 (by
    rw [decide_eq_true_eq]
    constructor
    ·intro h h'
     have:=h' c0
     omega
    intro h
    apply Classical.byContradiction
    intro h'
    exact h (fun _=>F3))
   rw [<- this]
   exact evs _
  rw [dj (fun h=>h (fun h'=>absurd h' c0))]
  exact bF (decide_eq_false F3) (evs _)
 by_cases c2:(0<i->eO (tmA p (i-1)).1 (tmA p i).1>0)
 ·rw [dj (fun h=>h c2)] at h2
  refine Ev2.bind (a:=false) (bF (decide_eq_false c1) (Ev.bind h2 (evs _))) ?_
  by_cases c3:VN 200 (tmA p i).2.1
  ·rw [fk c3] at hv
   refine Ev2.bind (a:=false) (bF rfl (Ev.bind hv (evs _))) (Ev2.bF rfl ?_)
   rw [mi F3]
   exact hr ⟨F3,c2,c3⟩
  rw [dj c3] at hv
  rw [hf (fun h=>c3 h.2.2)]
  exact Ev2.bind (a:=true) (bF rfl (Ev.bind hv (evs _))) (Ev2.bT rfl (Ev2.of (evs _)))
 rw [fk c2] at h2
 rw [hf (fun h=>c2 h.2.1)]
 exact Ev2.bind (a:=true) (bF (decide_eq_false c1) (Ev.bind h2 (evs _))) (Ev2.bind (a:=true) (bT rfl (evs _)) (Ev2.bT rfl (Ev2.of (evs _))))
theorem xy (ha:xw p) (h8:p.1<=8) (hi:i<p.2.1.length) (hp:0<i->((tmA p (i-1)).1.length:Int)=p.1) {r:Bool} (hr:sC p i->Ev2 (fun k m=>bu.l0 k m p.2.1 (p.2.1.length:Int) ((i+1:Nat):Int) p) r) (hf:¬ sC p i->r=false) :
 Ev2 (fun k m=>bu.l0 k m p.2.1 (p.2.1.length:Int) (i:Int) p) r:=by
 have hlen:=ha.1
 have harg:=xA ha hi
 refine Ev2.step (fun k m=>bu.aV k m _ _ _ _) (Ev2.bT (decide_eq_true F3) (Ev2.iT F3 ?_))
 by_cases c1:((tmA p i).1.length:Int)=p.1
 ·have b1:((List.length (tmA p i).1:Int) != p.1)=false:=by simp [c1]
  have hfit:Ev (fun k=>lK k (tmA p i).2.1 (200:Int)) _:=yv (tmA p i).2.1 200
  by_cases c2:(tmA p i).2.1.2.1.length<=200/\(tmA p i).2.1.2.2.1.length<=200
  ·rw [decide_eq_true c2] at hfit
   obtain ⟨s,hs1,hs2⟩:=wA (tmA p i).2.1
   by_cases c3:(tmA p i).2.1.2.1.length=0
   ·rw [decide_eq_true c3] at hs2
    rw [hf (fun h=>h.1.ne c3)]
    exact Ev2.bind (a:=false) (bF b1 (Ev.bind hfit (evs _))) (Ev2.bind (a:=true) (bF rfl (Ev.bind hs1 (by rw [hs2];exact evs _))) (Ev2.bT rfl (Ev2.of (evs _))))
   rw [decide_eq_false c3] at hs2
   refine Ev2.bind (a:=false) (bF b1 (Ev.bind hfit (evs _))) (Ev2.bind (a:=false) (bF rfl (Ev.bind hs1 (by rw [hs2];exact evs _))) (Ev2.bF rfl ?_))
   have hx8:(tmA p i).1.length<=8:=F3
   have tl:=AX (r:=r) ha hi harg.1 (fun h0=>by have:=hp h0;omega)
   have bnd:∀ j,(∀ j' (h:j'<(tmA p i).1.length),j'<j->0<=(tmA p i).1[j']/\(tmA p i).1[j']<=40)->0<=sE ((tmA p i).1.take j)/\sE ((tmA p i).1.take j)<=320:=fun j hg=>by
    have h1:=qa (B:=40) F3 (l:=(tmA p i).1.take j) (fun x hx=>by
     obtain ⟨j',h1,rfl⟩:=List.getElem_of_mem hx
     rw [List.length_take] at h1
     rw [List.getElem_take]
     exact hg j' F3 F3)
    have h2:(((tmA p i).1.take j).length:Int)<=8:=by rw [List.length_take];omega
    omega
   have key:=dnw (n:=(tmA p i).1.length) (P:=fun j=>(∀ j' (h:j'<(tmA p i).1.length),j'<j->0<=(tmA p i).1[j']/\(tmA p i).1[j']<=40)->Ev3 (fun k m1 m0=>bu.l1 k m1 m0 (i:Int) (sE ((tmA p i).1.take j)) p.2.1 (p.2.1.length:Int) (i:Int) (tmA p i).1 ((tmA p i).1.length:Int) (j:Int) p (tmA p i)) r) ?_ ?_ 0 (Nat.zero_le _) (fun j' _ h=>F3)
   ·exact key.diag
   ·intro hg
    have hall:∀ x∈(tmA p i).1,0<=x/\x<=40:=fun x hx=>by
     obtain ⟨j',h1,rfl⟩:=List.getElem_of_mem hx
     exact hg j' h1 h1
    rw [List.take_length]
    refine Ev3.step (fun k m1 m0=>bu.dN k m1 m0 _ _ _ _ _ _ _ _ _ _) (Ev3.bF (decide_eq_false F3) (Ev3.of ?_))
    refine tl (fun h=>hr ⟨⟨c1,hall,h.1,h.2.2,c3⟩,h.2.1⟩) (fun h=>hf (fun g=>h ⟨g.1.sum,g.2,g.1.co⟩))
   intro j hj ih hg
   have e1:(rdT (t:=(.int .i64)) (tmA p i).1 (j:Int):Int)=(tmA p i).1[j]:=cT hj
   refine Ev3.step (fun k m1 m0=>bu.dN k m1 m0 _ _ _ _ _ _ _ _ _ _) (Ev3.bT (decide_eq_true F3) (Ev3.iT F3 ?_))
   rw [e1]
   by_cases g1:0<=(tmA p i).1[j]/\(tmA p i).1[j]<=40
   ·have b2:=bnd (j+1) (fun j' h1 h2=>by
     by_cases c:j'=j
     ·subst c;exact g1
     exact hg j' h1 F3)
    have b3:=kx hj
    refine Ev3.bind (a:=false) (bF (decide_eq_false (show ¬ (tmA p i).1[j]<0 by omega)) (xf (show ¬ (tmA p i).1[j]>40 by omega))) (Ev3.bF rfl ?_)
    rw [<- b3,w64 F3 F3,mi F3]
    exact ih (fun j' h1 h2=>by
     by_cases c:j'=j
     ·subst c;exact g1
     exact hg j' h1 F3)
   rw [hf (fun h=>g1 (h.1.ex _ (List.getElem_mem hj)))]
   refine Ev3.bind (a:=true) ?_ (Ev3.bT rfl (Ev3.of (Ev2.of (evs _))))
   by_cases g2:(tmA p i).1[j]<0
   ·exact bT (decide_eq_true g2) (evs _)
   exact bF (decide_eq_false g2) (ET (show (tmA p i).1[j]>40 by omega))
  rw [decide_eq_false c2] at hfit
  rw [hf (fun h=>c2 (vn_len h.1.co))]
  exact Ev2.bind (a:=true) (bF b1 (Ev.bind hfit (evs _))) (Ev2.bind (a:=true) (bT rfl (evs _)) (Ev2.bT rfl (Ev2.of (evs _))))
 have b1:((List.length (tmA p i).1:Int) != p.1)=true:=by simp [c1]
 rw [hf (fun h=>c1 h.1.len)]
 exact Ev2.bind (a:=true) (bT b1 (evs _)) (Ev2.bind (a:=true) (bT rfl (evs _)) (Ev2.bT rfl (Ev2.of (evs _))))
theorem iv (ha:xw p):Ev (fun k=>bu k p) (dc (dI p)):=by
 have hlen:=ha.1
 by_cases c0:p.1<0
 ·rw [dj (fun h=>by have:=h.n0;omega)]
  exact Ev.step (fun k=>iw k p) (Ev.bind (a:=true) (bT (decide_eq_true c0) (evs _)) (Ev.bind (a:=true) (bT rfl (evs _)) (bT rfl (evs _))))
 by_cases c8:p.1>8
 ·rw [dj (fun h=>by have:=h.n8;omega)]
  exact Ev.step (fun k=>iw k p) (Ev.bind (a:=true) (bF (decide_eq_false c0) (ET c8)) (Ev.bind (a:=true) (bT rfl (evs _)) (bT rfl (evs _))))
 by_cases c4:p.2.1.length>4000
 ·rw [dj (fun h=>by have:=h.few;omega)]
  exact Ev.step (fun k=>iw k p) (Ev.bind (a:=false) (bF (decide_eq_false c0) (xf c8)) (Ev.bind (a:=true) (bF rfl (ET F3)) (bT rfl (evs _))))
 refine Ev.step (fun k=>iw k p) (Ev.bind (a:=false) (bF (decide_eq_false c0) (xf c8)) (Ev.bind (a:=false) (bF rfl (xf F3)) (bF rfl (Ev2.diag (g:=fun k m=>bu.l0 k m p.2.1 (p.2.1.length:Int) (0:Int) p) ?_))))
 have main:=dnw (n:=p.2.1.length) (P:=fun i=>(∀ j,j<i->sC p j)->Ev2 (fun k m=>bu.l0 k m p.2.1 (p.2.1.length:Int) (i:Int) p) (dc (dI p))) ?_ ?_ 0 (Nat.zero_le _) (fun j h=>F3)
 ·exact main
 ·intro hg
  rw [fk ⟨F3,F3,F3,hg⟩]
  exact Ev2.step (fun k m=>bu.aV k m _ _ _ _) (Ev2.bF (decide_eq_false F3) (Ev2.of (evs _)))
 intro i hi ih hg
 refine xy ha F3 hi (fun h0=>(hg (i-1) F3).1.len) (fun h=>ih (fun j hj=>?_)) (fun h=>dj (fun hv=>h (hv.good i hi)))
 by_cases c:j=i
 ·rw [c];exact h
 exact hg j F3
end
end Go.Proofs.YtfbgaddecbiimaaGreatDoor.Q
end
