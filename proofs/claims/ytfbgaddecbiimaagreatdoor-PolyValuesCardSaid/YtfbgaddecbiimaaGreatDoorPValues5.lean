/- An evaluator of the program's code, what its functions come to, and what they mean: text 5. No condition. -/
import Init
import Derived.SizedLaws
import Derived.ChangeSlices
import Derived.Test.YtfbgaddecbiimaaGreatDoorRows
import Derived.Test.YtfbgaddecbiimaaGreatDoorCards
import Derived.Test.YtfbgaddecbiimaaGreatDoorTie
import Derived.ProofKit
import Derived.OpenShut
import Derived.ShutString
import Derived.ChangeOld
import Derived.ChangeSame
import Derived.ChangeVars
import Derived.JoinedOf
import Derived.LaidLaws
import Derived.SevenTiedAt
import Derived.Test.YtfbgaddecbiimaaGreatDoorPValues4
set_option linter.unusedSimpArgs false
set_option linter.unusedSectionVars false
set_option linter.unusedVariables false
set_option maxRecDepth 100000
set_option maxHeartbeats 4000000
section
namespace Go.Proofs.YtfbgaddecbiimaaGreatDoor.Q
open Go.RowKit Go.Proofs.YtfbgaddecbiimaaGreatDoorW.PrintWords Go.Proofs.YtfbgaddecbiimaaGreatDoorW.PrintMore Go.Proofs.YtfbgaddecbiimaaGreatDoor.V Go.Proofs.YtfbgaddecbiimaaGreatDoor.E
abbrev aw:=List Int×aI×Unit
abbrev aR:=Int×List aw×Unit
noncomputable def bI (k:Nat) (a0:aR) (a1:aR) (a2:List aI):Option Bool:=fn T dQ k 6 [.v af a0,.v af a1,.v (.list aj) a2]
noncomputable def gD (k:Nat):Option Bool:=fn T dQ k 12 []
noncomputable def gC (k:Nat) (a0:aR) (a1:aR):Option Bool:=fn T dQ k 13 [.v af a0,.v af a1]
noncomputable def bw (k:Nat) (a0:aR):Option Bool:=fn T dQ k 17 [.v af a0]
noncomputable def Ar (k:Nat) (a0:aR) (a1:aR):Option (aR×Int×Unit):=fn T dQ k 18 [.v af a0,.v af a1]
noncomputable def bN (k:Nat) (a0:aR):Option (List aw):=fn T dQ k 22 [.v af a0]
noncomputable def bh (k:Nat) (a0:aR) (a1:Int) (a2:Int) (a3:Int):Option Bool:=fn T dQ k 23 [.v af a0,.v (.int .i64) a1,.v (.int .i64) a2,.v (.int .i64) a3]
noncomputable def bu (k:Nat) (a0:List aw):Option Int:=fn T dQ k 25 [.v (.list ak) a0]
noncomputable def gf (k:Nat) (a0:aI):Option Bool:=fn T dQ k 29 [.v aj a0]
noncomputable def dI (k:Nat) (a0:aI):Option aI:=fn T dQ k 30 [.v aj a0]
noncomputable def dW (k:Nat) (a0:aR) (a1:List aI):Option (aI×Int×Unit):=fn T dQ k 31 [.v af a0,.v (.list aj) a1]
noncomputable def gV (k:Nat) (a0:aI):Option Bool:=fn T dQ k 32 [.v aj a0]
noncomputable def Au (k:Nat) (a0:aR) (a1:aR):Option (aR×Int×Unit):=fn T dQ k 33 [.v af a0,.v af a1]
noncomputable def eT (k:Nat) (a0:aI) (a1:aI):Option Bool:=fn T dQ k 34 [.v aj a0,.v an a1]
noncomputable def aL (k:Nat) (a0:List aw) (a1:List aI):Option aI:=fn T dQ k 35 [.v (.list ak) a0,.v (.list an) a1]
noncomputable def eD (k:Nat) (a0:aI) (a1:aI):Option aI:=fn T dQ k 36 [.v an a0,.v an a1]
noncomputable def ff (k:Nat) (a0:aI) (a1:aI):Option aI:=fn T dQ k 37 [.v an a0,.v an a1]
noncomputable def aS (k:Nat) (a0:aR):Option Bool:=fn T dQ k 62 [.v af a0]
noncomputable def iW (k:Nat) (a0:aI):Option aI:=fn T dQ k 63 [.v an a0]
noncomputable def iU (k:Nat) (a0:aI) (a1:Int):Option Bool:=fn T dQ k 70 [.v aj a0,.v (.int .i64) a1]
noncomputable def iS (k:Nat) (a0:aI):Option Int:=fn T dQ k 71 [.v aj a0]
noncomputable def eO (k:Nat) (a0:List Int) (a1:List Int):Option Int:=fn T dQ k 72 [.v (.list (.int .i64)) a0,.v (.list (.int .i64)) a1]
noncomputable def eB (k:Nat) (a0:aI) (a1:Int):Option Bool:=fn T dQ k 73 [.v aj a0,.v (.int .i64) a1]
noncomputable def oR (k:Nat) (a0:aR) (a1:aR):Option Int:=fn T dQ k 74 [.v af a0,.v af a1]
noncomputable def mr (k:Nat) (a0:aR) (a1:aR):Option (aR×Int×Unit):=fn T dQ k 75 [.v af a0,.v af a1]
noncomputable def cD (k:Nat) (a0:aI) (a1:Int):Option Bool:=fn T dQ k 78 [.v aj a0,.v (.int .i64) a1]
noncomputable def bV (k:Nat) (a0:List Int):Option Int:=fn T dQ k 80 [.v (.arr 8 (.int .i64)) a0]
noncomputable def eI (k:Nat) (a0:aI):Option Bool:=fn T dQ k 83 [.v aj a0]
noncomputable def bO (k:Nat) (a0:List Int):Option (List Int):=fn T dQ k 84 [.v (.list (.int .u32)) a0]
noncomputable def pO (k:Nat) (a0:aI):Option Bool:=fn T dQ k 85 [.v aj a0]
noncomputable def cC (k:Nat) (a0:aR) (a1:List aI):Option aI:=fn T dQ k 86 [.v af a0,.v (.list aj) a1]
noncomputable def az (k:Nat) (a0:List aw) (a1:List aw):Option (List aw):=fn T dQ k 87 [.v (.list ah) a0,.v (.list ah) a1,.v .fn 88,.v .fn 89]
noncomputable def iK (k:Nat) (a0:aR):Option (aR×Int×Unit):=fn T dQ k 91 [.v af a0]
noncomputable def gU (k:Nat) (a0:aI) (a1:aI):Option Bool:=fn T dQ k 92 [.v aj a0,.v aj a1]
noncomputable def e8 (k:Nat):Option aI:=fn T dQ k 93 []
noncomputable def fO (k:Nat) (a0:aI) (a1:Int):Option aI:=fn T dQ k 94 [.v an a0,.v (.int .i64) a1]
noncomputable def au (k:Nat) (a0:List Int) (a1:List Int):Option (List Int):=fn T dQ k 95 [.v (.list (.int .i64)) a0,.v (.list (.int .i64)) a1]
noncomputable def dY (k:Nat) (a0:Bool) (a1:List Int) (a2:List Int):Option aI:=fn T dQ k 96 [.v .bool a0,.v (.list (.int .i64)) a1,.v (.list (.int .i64)) a2]
noncomputable def aA (k:Nat) (a0:List Int) (a1:List Int):Option (List Int):=fn T dQ k 97 [.v (.list (.int .i64)) a0,.v (.list (.int .i64)) a1]
noncomputable def aK (k:Nat) (a0:List Int) (a1:List Int):Option Int:=fn T dQ k 98 [.v (.list (.int .i64)) a0,.v (.list (.int .i64)) a1]
noncomputable def aM (k:Nat) (a0:List Int) (a1:List Int):Option (List Int):=fn T dQ k 99 [.v (.list (.int .i64)) a0,.v (.list (.int .i64)) a1]
noncomputable def dT (k:Nat) (a0:aR):Option Int:=fn T dQ k 100 [.v af a0]
noncomputable def yE (k:Nat):Option aI:=fn T dQ k 112 []
noncomputable def bR (k:Nat) (a0:List Int) (a1:List Int):Option Bool:=fn T dQ k 117 [.v (.arr 8 (.int .i64)) a0,.v (.arr 8 (.int .i64)) a1]
noncomputable def aD (k:Nat) (a0:List Int):Option (List Int):=fn T dQ k 118 [.v (.list (.int .i64)) a0]
noncomputable def jj (k:Nat) (a0:List Int) (a1:Int):Option Bool:=fn T dQ k 128 [.v (.list (.int .u32)) a0,.v (.int .i64) a1]
noncomputable def bW (k:Nat) (a0:List Int) (a1:List Int):Option (List Int):=fn T dQ k 129 [.v (.list (.int .u32)) a0,.v (.list (.int .u32)) a1]
noncomputable def fD (k:Nat) (a0:aR) (a1:aR):Option aR:=fn T dQ k 130 [.v af a0,.v af a1]
noncomputable def bP (k:Nat) (a0:List Int):Option Bool:=fn T dQ k 132 [.v (.list (.int .u32)) a0]
noncomputable def ay (k:Nat) (a0:List Int) (a1:List Int):Option (List Int):=fn T dQ k 133 [.v (.list (.int .i64)) a0,.v (.list (.int .i64)) a1]
noncomputable def ax (k:Nat) (a0:List Int) (a1:Int) (a2:Int):Option (List Int):=fn T dQ k 134 [.v (.list (.int .i64)) a0,.v (.int .i64) a1,.v (.int .i64) a2]
noncomputable def fE (k:Nat) (a0:aI) (a1:aI):Option aI:=fn T dQ k 90 [.v aj a0,.v aj a1]
noncomputable def lK (k:Nat):Option aI:=fn T dQ k 135 []
noncomputable def iw (k:Nat) (a0:aI) (a1:aI):Option aI:=fn T dQ k 136 [.v aj a0,.v aj a1]
noncomputable def dC (k:Nat) (a0:aI) (a1:Int):Option aI:=fn T dQ k 137 [.v aj a0,.v (.int .i64) a1]
noncomputable def uR (k:Nat) (a0:aw) (a1:aw):Option Int:=fn T dQ k 88 [.v ah a0,.v ah a1]
noncomputable def mu (k:Nat) (a0:aw) (a1:aw):Option (aw×Bool×Unit):=fn T dQ k 89 [.v ah a0,.v ah a1]
noncomputable def gz (k:Nat) (a0:aR):Option aR:=fn T dQ k 143 [.v af a0]
noncomputable def aH (k:Nat) (a0:List Int) (a1:List Int):Option Bool:=fn T dQ k 144 [.v (.list (.int .u32)) a0,.v (.list (.int .u32)) a1]
noncomputable def bb (k:Nat) (a0:List Int) (a1:Int):Option (List Int):=fn T dQ k 145 [.v (.list (.int .i64)) a0,.v (.int .i64) a1]
noncomputable def aG (k:Nat) (a0:List Int) (a1:List Int):Option (List Int×List Int×Unit):=fn T dQ k 147 [.v (.list (.int .i64)) a0,.v (.list (.int .i64)) a1]
noncomputable def fC (k:Nat) (a0:List Int):Option Int:=fn T dQ k 149 [.v (.list (.int .i64)) a0]
noncomputable def uZ (k:Nat) (a0:aI):Option aI:=fn T dQ k 150 [.v aj a0]
noncomputable def Ej (k:Nat) (a0:Int):Option aI:=fn T dQ k 151 [.v (.int .i64) a0]
noncomputable def cB (k:Nat) (a0:aR) (a1:aw):Option aR:=fn T dQ k 155 [.v af a0,.v ah a1]
noncomputable def bf (k:Nat) (a0:Int) (a1:List aw):Option aR:=fn T dQ k 167 [.v (.int .i64) a0,.v (.list ah) a1]
noncomputable def dj (k:Nat) (a0:List Int) (a1:List Int):Option Int:=fn T dQ k 138 [.v (.list (.int .u32)) a0,.v (.list (.int .u32)) a1]
noncomputable def bG (k:Nat) (a0:List Int) (a1:List Int):Option (List Int):=fn T dQ k 139 [.v (.list (.int .u32)) a0,.v (.list (.int .u32)) a1]
noncomputable def dL (k:Nat) (a0:Bool) (a1:List Int) (a2:List Int):Option aI:=fn T dQ k 140 [.v .bool a0,.v (.list (.int .u32)) a1,.v (.list (.int .u32)) a2]
noncomputable def cP (k:Nat) (a0:List Int) (a1:List Int):Option (List Int):=fn T dQ k 141 [.v (.list (.int .u32)) a0,.v (.list (.int .u32)) a1]
noncomputable def de (k:Nat) (a0:List Int) (a1:List Int):Option (List Int):=fn T dQ k 142 [.v (.list (.int .u32)) a0,.v (.list (.int .u32)) a1]
noncomputable def cS (k:Nat) (a0:Int):Option (List Int):=fn T dQ k 159 [.v (.int .u64) a0]
noncomputable def gL (k:Nat) (a0:List Int):Option ByteArray:=fn T dQ k 186 [.v (.list (.int .i64)) a0]
noncomputable def aJ (k:Nat) (a0:List Int) (a1:List Int):Option (List Int×List Int×Unit):=fn T dQ k 160 [.v (.list (.int .u32)) a0,.v (.list (.int .u32)) a1]
noncomputable def bI.l0 (k m0:Nat) (x2:List aI) (x33:List aI) (x34:Int) (x35:Int) (r3:aR) (r4:aR) (r7:List aI):Option Bool:=rG T dQ k 6 Tryz.f6 none [1,1,1,1,0,1,0] m0 [] ⟨[(2,.v (.list aj) x2),(3,.po 3 0 []),(4,.po 4 0 []),(7,.own 7),(33,.v (.list aj) x33),(34,.v (.int .i64) x34),(35,.v (.int .i64) x35)],[(3,.box 24 af r3),(4,.box 24 af r4),(7,.arr 51 an r7)]⟩
noncomputable def bw.l0 (k m0:Nat) (x23:List aw) (x24:Int) (x25:Int) (r1:aR):Option Bool:=rG T dQ k 17 Tryz.f17 none [1,1,0,1,0] m0 [] ⟨[(1,.po 1 0 []),(23,.v (.list ah) x23),(24,.v (.int .i64) x24),(25,.v (.int .i64) x25)],[(1,.box 24 af r1)]⟩
noncomputable def bw.l1 (k m1:Nat) (m0:Nat) (x3:Int) (x5:Int) (x23:List aw) (x24:Int) (x25:Int) (x49:List Int) (x50:Int) (x51:Int) (r1:aR) (r4:aw):Option Bool:=rG T dQ k 17 Tryz.f17 none [1,1,0,1,0,0,1,1,0,0,1,1,1,0,1,0] m1 [m0] ⟨[(1,.po 1 0 []),(3,.v (.int .i64) x3),(4,.po 4 0 []),(5,.v (.int .i64) x5),(23,.v (.list ah) x23),(24,.v (.int .i64) x24),(25,.v (.int .i64) x25),(49,.v (.list (.int .i64)) x49),(50,.v (.int .i64) x50),(51,.v (.int .i64) x51)],[(1,.box 24 af r1),(4,.box 96 ah r4)]⟩
noncomputable def bN.l0 (k m0:Nat) (x8:List aw) (x9:Int) (x10:Int) (r3:List aw):Option (List aw):=rG T dQ k 22 Tryz.f22 none [1,1,0,1,0] m0 [] ⟨[(3,.own 3),(8,.v (.list ah) x8),(9,.v (.int .i64) x9),(10,.v (.int .i64) x10)],[(3,.arr 53 ak r3)]⟩
noncomputable def bh.l0 (k m0:Nat) (x2:Int) (x3:Int) (x27:List aw) (x28:Int) (x29:Int) (r4:aR):Option Bool:=rG T dQ k 23 Tryz.f23 none [1,1,0,1,0] m0 [] ⟨[(2,.v (.int .i64) x2),(3,.v (.int .i64) x3),(4,.po 4 0 []),(27,.v (.list ah) x27),(28,.v (.int .i64) x28),(29,.v (.int .i64) x29)],[(4,.box 24 af r4)]⟩
noncomputable def bu.l0 (k m0:Nat) (x3:Int) (x6:List aw) (x7:Int) (x8:Int):Option Int:=rG T dQ k 25 Tryz.f25 none [1,1,0,1,0] m0 [] ⟨[(3,.v (.int .i64) x3),(6,.v (.list ak) x6),(7,.v (.int .i64) x7),(8,.v (.int .i64) x8)],[]⟩
noncomputable def dW.l0 (k m0:Nat) (x1:List aI) (x6:Bool) (x12:List aI) (x13:Int) (x14:Int) (r2:aR) (r4:aI):Option (aI×Int×Unit):=rG T dQ k 31 Tryz.f31 none [1,1,0,1,0] m0 [] ⟨[(1,.v (.list aj) x1),(2,.po 2 0 []),(4,.po 4 0 []),(6,.v .bool x6),(12,.v (.list aj) x12),(13,.v (.int .i64) x13),(14,.v (.int .i64) x14)],[(2,.box 24 af r2),(4,.box 61 aj r4)]⟩
noncomputable def aL.l0 (k m0:Nat) (x1:List aI) (x12:List aw) (x13:Int) (x14:Int) (r4:aI) (r5:aI):Option aI:=rG T dQ k 35 Tryz.f35 none [1,1,0,1,0] m0 [] ⟨[(1,.v (.list an) x1),(4,.po 4 0 []),(5,.po 5 0 []),(12,.v (.list ak) x12),(13,.v (.int .i64) x13),(14,.v (.int .i64) x14)],[(4,.box 51 an r4),(5,.box 51 an r5)]⟩
noncomputable def aL.l1 (k m1:Nat) (m0:Nat) (x1:List aI) (x12:List aw) (x13:Int) (x14:Int) (x21:List Int) (x22:Int) (r4:aI) (r5:aI) (r8:aI):Option aI:=rG T dQ k 35 Tryz.f35 none [1,1,0,1,0,0,1,1,0,0,1,1,0,1,0] m1 [m0] ⟨[(1,.v (.list an) x1),(4,.po 4 0 []),(5,.po 5 0 []),(8,.po 8 0 []),(12,.v (.list ak) x12),(13,.v (.int .i64) x13),(14,.v (.int .i64) x14),(21,.v (.arr 8 (.int .i64)) x21),(22,.v (.int .i64) x22)],[(4,.box 51 an r4),(5,.box 51 an r5),(8,.box 51 an r8)]⟩
noncomputable def aS.l0 (k m0:Nat) (x24:List aw) (x25:Int) (x26:Int) (r1:aR) (r3:List Int):Option Bool:=rG T dQ k 62 Tryz.f62 none [1,1,1,0,1,0] m0 [] ⟨[(1,.po 1 0 []),(3,.po 3 0 []),(24,.v (.list ah) x24),(25,.v (.int .i64) x25),(26,.v (.int .i64) x26)],[(1,.box 24 af r1),(3,.box 47 (.arr 8 (.int .i64)) r3)]⟩
noncomputable def aS.l1 (k m1:Nat) (m0:Nat) (x4:Int) (x24:List aw) (x25:Int) (x26:Int) (x57:List Int) (x58:Int) (x59:Int) (r1:aR) (r3:List Int) (r6:List Int):Option Bool:=rG T dQ k 62 Tryz.f62 none [1,1,1,0,1,0,0,1,1,0,0,1,1,1,0,1,0] m1 [m0] ⟨[(1,.po 1 0 []),(3,.po 3 0 []),(4,.v (.int .i64) x4),(6,.po 6 0 []),(24,.v (.list ah) x24),(25,.v (.int .i64) x25),(26,.v (.int .i64) x26),(57,.v (.list (.int .i64)) x57),(58,.v (.int .i64) x58),(59,.v (.int .i64) x59)],[(1,.box 24 af r1),(3,.box 47 (.arr 8 (.int .i64)) r3),(6,.box 47 (.arr 8 (.int .i64)) r6)]⟩
noncomputable def eO.l0 (k m0:Nat) (x1:List Int) (x7:List Int) (x8:Int) (x9:Int):Option Int:=rG T dQ k 72 Tryz.f72 none [1,0,1,0] m0 [] ⟨[(1,.v (.list (.int .i64)) x1),(7,.v (.list (.int .i64)) x7),(8,.v (.int .i64) x8),(9,.v (.int .i64) x9)],[]⟩
noncomputable def bV.l0 (k m0:Nat) (x3:Int) (x6:List Int) (x7:Int):Option Int:=rG T dQ k 80 Tryz.f80 none [1,1,0,1,0] m0 [] ⟨[(3,.v (.int .i64) x3),(6,.v (.arr 8 (.int .i64)) x6),(7,.v (.int .i64) x7)],[]⟩
noncomputable def bO.l0 (k m0:Nat) (x0:List Int) (x3:List Int) (x4:Int):Option (List Int):=rG T dQ k 84 Tryz.f84 none [1,1,0,1,0] m0 [] ⟨[(0,.v (.list (.int .u32)) x0),(3,.v (.list (.int .i64)) x3),(4,.v (.int .i64) x4)],[]⟩
noncomputable def cC.l0 (k m0:Nat) (x1:List aI) (x13:List aw) (x14:Int) (x15:Int) (r4:aI) (r5:aI):Option aI:=rG T dQ k 86 Tryz.f86 none [1,1,0,1,0] m0 [] ⟨[(1,.v (.list aj) x1),(4,.po 4 0 []),(5,.po 5 0 []),(13,.v (.list ah) x13),(14,.v (.int .i64) x14),(15,.v (.int .i64) x15)],[(4,.box 61 aj r4),(5,.box 61 aj r5)]⟩
noncomputable def cC.l1 (k m1:Nat) (m0:Nat) (x1:List aI) (x13:List aw) (x14:Int) (x15:Int) (x22:List Int) (x23:Int) (x24:Int) (r4:aI) (r5:aI) (r8:aI):Option aI:=rG T dQ k 86 Tryz.f86 none [1,1,0,1,0,0,1,1,0,0,1,1,0,1,0] m1 [m0] ⟨[(1,.v (.list aj) x1),(4,.po 4 0 []),(5,.po 5 0 []),(8,.po 8 0 []),(13,.v (.list ah) x13),(14,.v (.int .i64) x14),(15,.v (.int .i64) x15),(22,.v (.list (.int .i64)) x22),(23,.v (.int .i64) x23),(24,.v (.int .i64) x24)],[(4,.box 61 aj r4),(5,.box 61 aj r5),(8,.box 61 aj r8)]⟩
noncomputable def az.l0 (k m0:Nat) (x0:List aw) (x1:List aw) (r9:List aw):Option (List aw):=rG T dQ k 87 Tryz.f87 none [1,1,0,0] m0 [] ⟨[(0,.v (.list ah) x0),(1,.v (.list ah) x1),(2,.v .fn 88),(3,.v .fn 89),(9,.own 9)],[(9,.arr 96 ah r9)]⟩
noncomputable def dT.l0 (k m0:Nat) (x3:Int) (x7:List aw) (x8:Int) (x9:Int):Option Int:=rG T dQ k 100 Tryz.f100 none [1,1,0,1,0] m0 [] ⟨[(3,.v (.int .i64) x3),(7,.v (.list ah) x7),(8,.v (.int .i64) x8),(9,.v (.int .i64) x9)],[]⟩
noncomputable def bR.l0 (k m0:Nat) (x6:Int) (r2:List Int) (r3:List Int):Option Bool:=rG T dQ k 117 Tryz.f117 none [1,0,1,0] m0 [] ⟨[(2,.po 2 0 []),(3,.po 3 0 []),(6,.v (.int .i64) x6)],[(2,.box 47 (.arr 8 (.int .i64)) r2),(3,.box 47 (.arr 8 (.int .i64)) r3)]⟩
noncomputable def fD.l0 (k m0:Nat) (x9:List aw) (x10:Int) (x11:Int) (r2:aR) (r3:aR) (r4:aR) (r5:List aw):Option aR:=rG T dQ k 130 Tryz.f130 none [1,1,0,1,0] m0 [] ⟨[(2,.po 2 0 []),(3,.po 3 0 []),(4,.po 4 0 []),(5,.own 5),(9,.v (.list ah) x9),(10,.v (.int .i64) x10),(11,.v (.int .i64) x11)],[(2,.box 24 af r2),(3,.box 24 af r3),(4,.box 24 af r4),(5,.arr 96 ah r5)]⟩
noncomputable def dC.l0 (k m0:Nat) (x1:Int) (r2:aI) (r4:aI) (r5:aI):Option aI:=rG T dQ k 137 Tryz.f137 none [1,1,0,0] m0 [] ⟨[(1,.v (.int .i64) x1),(2,.po 2 0 []),(4,.po 4 0 []),(5,.po 5 0 [])],[(2,.box 61 aj r2),(4,.box 61 aj r4),(5,.box 61 aj r5)]⟩
noncomputable def gz.l0 (k m0:Nat) (x10:List aw) (x11:Int) (x12:Int) (r1:aR) (r2:aR) (q3_0:Int) (r8:List aw):Option aR:=rG T dQ k 143 Tryz.f143 none [1,1,0,1,0] m0 [] ⟨[(1,.po 1 0 []),(2,.po 2 0 []),(3,.po 2000003 0 []),(10,.v (.list ah) x10),(11,.v (.int .i64) x11),(12,.v (.int .i64) x12)],[(1,.box 24 af r1),(2,.box 24 af r2),(2000003,.obox 24 [.v (.int .i64) q3_0,.own 8]),(8,.arr 96 ah r8)]⟩
noncomputable def fC.l0 (k m0:Nat) (x3:Int) (x6:List Int) (x7:Int) (x8:Int):Option Int:=rG T dQ k 149 Tryz.f149 none [1,1,0,1,0] m0 [] ⟨[(3,.v (.int .i64) x3),(6,.v (.list (.int .i64)) x6),(7,.v (.int .i64) x7),(8,.v (.int .i64) x8)],[]⟩
noncomputable def cB.l0 (k m0:Nat) (x14:List aw) (x15:Int) (x16:Int) (r2:aR) (r3:aw) (r4:aR) (q5_0:Int) (r12:List aw):Option aR:=rG T dQ k 155 Tryz.f155 none [1,1,0,1,0] m0 [] ⟨[(2,.po 2 0 []),(3,.po 3 0 []),(4,.po 4 0 []),(5,.po 2000005 0 []),(14,.v (.list ah) x14),(15,.v (.int .i64) x15),(16,.v (.int .i64) x16)],[(2,.box 24 af r2),(3,.box 96 ah r3),(4,.box 24 af r4),(2000005,.obox 24 [.v (.int .i64) q5_0,.own 12]),(12,.arr 96 ah r12)]⟩
noncomputable def cB.l1 (k m1:Nat) (m0:Nat) (x14:List aw) (x15:Int) (x16:Int) (x24:Int) (x25:Int) (r2:aR) (r3:aw) (r4:aR) (q5_0:Int) (r12:List aw) (r7:aw) (r22:List Int):Option aR:=rG T dQ k 155 Tryz.f155 none [1,1,0,1,0,0,1,1,0,0,1,1,0,1,0] m1 [m0] ⟨[(2,.po 2 0 []),(3,.po 3 0 []),(4,.po 4 0 []),(5,.po 2000005 0 []),(7,.po 7 0 []),(8,.own 22),(14,.v (.list ah) x14),(15,.v (.int .i64) x15),(16,.v (.int .i64) x16),(24,.v (.int .i64) x24),(25,.v (.int .i64) x25)],[(2,.box 24 af r2),(3,.box 96 ah r3),(4,.box 24 af r4),(2000005,.obox 24 [.v (.int .i64) q5_0,.own 12]),(12,.arr 96 ah r12),(7,.box 96 ah r7),(22,.arr 3 (.int .i64) r22)]⟩
noncomputable def bf.l0 (k m0:Nat) (x0:Int) (x5:List (ByteArray×Int)) (x16:List aw) (x17:Int) (x18:Int) (r4:aR) (r6:List aw):Option aR:=rG T dQ k 167 Tryz.f167 none [1,1,1,0,1,0] m0 [] ⟨[(0,.v (.int .i64) x0),(4,.po 4 0 []),(5,.mp x5),(6,.own 6),(16,.v (.list ah) x16),(17,.v (.int .i64) x17),(18,.v (.int .i64) x18)],[(4,.box 24 af r4),(6,.arr 96 ah r6)]⟩
noncomputable def bf.l1 (k m0:Nat) (x56:List aw) (x57:Int) (x58:Int) (r4:aR) (q12_0:Int) (r55:List aw):Option aR:=rG T dQ k 167 Tryz.f167 none [1,1,1,1,1,0,1,0] m0 [] ⟨[(4,.po 4 0 []),(12,.po 2000012 0 []),(56,.v (.list ah) x56),(57,.v (.int .i64) x57),(58,.v (.int .i64) x58)],[(4,.box 24 af r4),(2000012,.obox 24 [.v (.int .i64) q12_0,.own 55]),(55,.arr 96 ah r55)]⟩
noncomputable def gL.l0 (k m0:Nat) (x10:List Int) (x11:Int) (x12:Int) (r9:List Int):Option ByteArray:=rG T dQ k 186 Tryz.f186 none [1,1,0,1,0] m0 [] ⟨[(3,.own 9),(10,.v (.list (.int .i64)) x10),(11,.v (.int .i64) x11),(12,.v (.int .i64) x12)],[(9,.arr 5 (.int .u8) r9)]⟩
noncomputable def aL.j0 (k:Nat) (m0 m1:Nat) (x1:List aI) (x12:List aw) (x13:Int) (x14:Int) (x21:List Int) (x22:Int) (r4:aI) (r5:aI) (r8:aI):Option aI :=
 aL.l1 k m1 m0 x1 x12 x13 x14 x21 (wrap64 (x22+(1:Int))) r4 r5 r8
noncomputable def cC.j0 (k:Nat) (m0 m1:Nat) (x1:List aI) (x13:List aw) (x14:Int) (x15:Int) (x22:List Int) (x23:Int) (x24:Int) (r4:aI) (r5:aI) (r8:aI):Option aI :=
 cC.l1 k m1 m0 x1 x13 x14 x15 x22 x23 (wrap64 (x24+(1:Int))) r4 r5 r8
noncomputable def az.j0 (k:Nat) (m0:Nat) (x0:List aw) (x1:List aw) (r9:List aw):Option (List aw) :=
 if 0<=(1:Int)/\(1:Int)<=(List.length x0:Int) then if 0<=(1:Int)/\(1:Int)<=(List.length x1:Int) then az.l0 k m0 (List.drop (Int.toNat (1:Int)) x0) (List.drop (Int.toNat (1:Int)) x1) r9 else none else none
noncomputable def fD.j0 (k:Nat) (m0:Nat) (x9:List aw) (x10:Int) (x11:Int) (r2:aR) (r3:aR) (r4:aR) (r5:List aw):Option aR :=
 fD.l0 k m0 x9 x10 (wrap64 (x11+(1:Int))) r2 r3 r4 r5
noncomputable def fE.j0 (k:Nat) (x5:List Int) (x6:List Int) (x7:List Int) (r2:aI) (r3:aI) (r4:aI):Option aI :=
 bif r2.1==r3.1 then
  (cP k x5 x6).bind fun (v5:List Int) =>
  (dL k r2.1 v5 x7).bind fun (v6:aI) =>
  some v6
 else
  (dj k x5 x6).bind fun (v7:Int) =>
  bif decide (v7>=(0:Int)) then
   (de k x5 x6).bind fun (v8:List Int) =>
   (dL k r2.1 v8 x7).bind fun (v9:aI) =>
   some v9
  else
   (de k x6 x5).bind fun (v10:List Int) =>
   (dL k r3.1 v10 x7).bind fun (v11:aI) =>
   some v11
noncomputable def dC.j1 (k:Nat) (m0:Nat) (x1:Int) (r2:aI) (r4:aI) (r5:aI):Option aI :=
 dC.l0 k m0 (shr .i64 x1 (1:Int)) r2 r4 r5
noncomputable def dC.j0 (k:Nat) (m0:Nat) (x1:Int) (r2:aI) (r4:aI) (r5:aI):Option aI :=
 bif decide (x1>(1:Int)) then
  (iw k r2 r2).bind fun (v3:aI) =>
  dC.j1 k m0 x1 v3 r4 r5
 else
  dC.j1 k m0 x1 r2 r4 r5
noncomputable def bf.j1 (k:Nat) (m0:Nat) (x56:List aw) (x57:Int) (x58:Int) (r4:aR) (q12_0:Int) (r55:List aw):Option aR :=
 bf.l1 k m0 x56 x57 (wrap64 (x58+(1:Int))) r4 q12_0 r55
noncomputable def bf.j0 (k:Nat) (m0:Nat) (x0:Int) (x5:List (ByteArray×Int)) (x16:List aw) (x17:Int) (x18:Int) (r4:aR) (r6:List aw):Option aR :=
 bf.l0 k m0 x0 x5 x16 x17 (wrap64 (x18+(1:Int))) r4 r6
noncomputable def dL.j0 (k:Nat) (x0:Bool) (x1:List Int) (x2:List Int) (r6:aI):Option aI :=
 if List.length x1*4<=140737488355328 then if List.length x2*4<=140737488355328 then some (x0,x1,x2,()) else none else none
theorem jO (k:Nat) (a0:aR) (a1:aR) (a2:List aI):bI (k+1) a0 a1 a2 =
 (gD k ).bind fun (v1:Bool) =>
 bif !v1 then
  some false
 else
  (gC k a0 a1).bind fun (v2:Bool) =>
  (bif !v2 then some true else some (decide ((List.length a2:Int)>(8:Int)))).bind fun (b3:Bool) =>
  bif b3 then
   some true
  else
   bI.l0 k k a2 a2 (List.length a2:Int) (0:Int) a0 a1 ([]:List aI):=by
 kernel_rfl
theorem bI.ba (k m0:Nat) (x2:List aI) (x33:List aI) (x34:Int) (x35:Int) (r3:aR) (r4:aR) (r7:List aI):bI.l0 k (m0+1) x2 x33 x34 x35 r3 r4 r7 =
 bif decide (x35<x34) then
  if 0<=x35/\x35<(List.length x33:Int) then (gf k (dM (t:=aj) x33 x35:aI)).bind fun (v4:Bool) =>
  bif !v4 then
   some true
  else
   (dI k (dM (t:=aj) x33 x35:aI)).bind fun (v5:aI) =>
   if (List.length r7+List.length ([v5]))*56<=140737488355328 then bI.l0 k m0 x2 x33 x34 (wrap64 (x35+(1:Int))) r3 r4 (r7++([v5])) else none else none
 else
  (dW k r3 x2).bind fun (v6:aI×Int×Unit) =>
  bif (List.length x2:Int) != r3.1 then
   (bif v6.2.1==(1:Int) then (gV k v6.1).bind fun (v7:Bool) =>
   some v7 else some false).bind fun (b8:Bool) =>
   some b8
  else
   (dW k r4 x2).bind fun (v9:aI×Int×Unit) =>
   (Au k r3 r4).bind fun (v10:aR×Int×Unit) =>
   (Ar k r3 r4).bind fun (v11:aR×Int×Unit) =>
   (bif v6.2.1 != (0:Int) then some true else some (v9.2.1 != (0:Int))).bind fun (b12:Bool) =>
   (bif b12 then some true else some (v10.2.1 != (0:Int))).bind fun (b13:Bool) =>
   (bif b13 then some true else some (v11.2.1 != (0:Int))).bind fun (b14:Bool) =>
   (bif b14 then some true else (bN k r3).bind fun (v15:List aw) =>
   (aL k v15 r7).bind fun (v16:aI) =>
   (eT k v6.1 v16).bind fun (v17:Bool) =>
   some (!v17)).bind fun (b18:Bool) =>
   bif b18 then
    some false
   else
    (dW k v10.1 x2).bind fun (v19:aI×Int×Unit) =>
    (dW k v11.1 x2).bind fun (v20:aI×Int×Unit) =>
    (bif v19.2.1==(0:Int) then some (v20.2.1==(0:Int)) else some false).bind fun (b21:Bool) =>
    (bif b21 then (dI k v6.1).bind fun (v22:aI) =>
    (dI k v9.1).bind fun (v23:aI) =>
    (eD k v22 v23).bind fun (v24:aI) =>
    (eT k v19.1 v24).bind fun (v25:Bool) =>
    some v25 else some false).bind fun (b26:Bool) =>
    (bif b26 then (dI k v6.1).bind fun (v27:aI) =>
    (dI k v9.1).bind fun (v28:aI) =>
    (ff k v27 v28).bind fun (v29:aI) =>
    (eT k v20.1 v29).bind fun (v30:Bool) =>
    some v30 else some false).bind fun (b31:Bool) =>
    some b31:=by
 kernel_rfl
theorem iE (k:Nat) (a0:aR) (a1:aR):gC (k+1) a0 a1 =
 (bif a0.1==a1.1 then (bh k a0 (12:Int) (8:Int) (2:Int)).bind fun (v1:Bool) =>
 some v1 else some false).bind fun (b2:Bool) =>
 (bif b2 then (bh k a1 (12:Int) (8:Int) (2:Int)).bind fun (v3:Bool) =>
 some v3 else some false).bind fun (b4:Bool) =>
 some b4:=by
 kernel_rfl
theorem jw (k:Nat) (a0:aR):bw (k+1) a0 =
 (bif decide (a0.1<(0:Int)) then some true else some (decide (a0.1>(8:Int)))).bind fun (b1:Bool) =>
 (bif b1 then some true else some (decide ((List.length a0.2.1:Int)>(4000:Int)))).bind fun (b2:Bool) =>
 bif b2 then
  some false
 else
  bw.l0 k k a0.2.1 (List.length a0.2.1:Int) (0:Int) a0:=by
 kernel_rfl
theorem bw.ba (k m0:Nat) (x23:List aw) (x24:Int) (x25:Int) (r1:aR):bw.l0 k (m0+1) x23 x24 x25 r1 =
 bif decide (x25<x24) then
  if 0<=x25/\x25<(List.length x23:Int) then (bif (List.length ((dM (t:=ah) x23 x25:aw).1):Int) != r1.1 then some true else (iU k (((dM (t:=ah) x23 x25:aw).2).1) (200:Int)).bind fun (v3:Bool) =>
  some (!v3)).bind fun (b4:Bool) =>
  (bif b4 then some true else (iS k (((dM (t:=ah) x23 x25:aw).2).1)).bind fun (v5:Int) =>
  some (v5==(0:Int))).bind fun (b6:Bool) =>
  bif b6 then
   some false
  else
   bw.l1 k k m0 x25 (0:Int) x23 x24 x25 ((dM (t:=ah) x23 x25:aw).1) (List.length ((dM (t:=ah) x23 x25:aw).1):Int) (0:Int) r1 (dM (t:=ah) x23 x25:aw) else none
 else
  some true:=by
 kernel_rfl
theorem bw.fv (k m1:Nat) (m0:Nat) (x3:Int) (x5:Int) (x23:List aw) (x24:Int) (x25:Int) (x49:List Int) (x50:Int) (x51:Int) (r1:aR) (r4:aw):bw.l1 k (m1+1) m0 x3 x5 x23 x24 x25 x49 x50 x51 r1 r4 =
 bif decide (x51<x50) then
  if 0<=x51/\x51<(List.length x49:Int) then (bif decide ((dM (t:=(.int .i64)) x49 x51:Int)<(0:Int)) then some true else some (decide ((dM (t:=(.int .i64)) x49 x51:Int)>(40:Int)))).bind fun (b7:Bool) =>
  bif b7 then
   some false
  else
   bw.l1 k m1 m0 x3 (wrap64 (x5+(dM (t:=(.int .i64)) x49 x51:Int))) x23 x24 x25 x49 x50 (wrap64 (x51+(1:Int))) r1 r4 else none
 else
  (bif decide (x5>(40:Int)) then some true else (bif decide (x3>(0:Int)) then if 0<=(wrap64 (x3-(1:Int)))/\(wrap64 (x3-(1:Int)))<(List.length r1.2.1:Int) then (eO k ((dM (t:=ah) r1.2.1 (wrap64 (x3-(1:Int))):aw).1) r4.1).bind fun (v8:Int) =>
  some (decide (v8<=(0:Int))) else none else some false).bind fun (b9:Bool) =>
  some b9).bind fun (b10:Bool) =>
  (bif b10 then some true else (eB k r4.2.1 (200:Int)).bind fun (v11:Bool) =>
  some (!v11)).bind fun (b12:Bool) =>
  bif b12 then
   some false
  else
   bw.l0 k m0 x23 x24 (wrap64 (x25+(1:Int))) r1:=by
 kernel_rfl
theorem Aq (k:Nat) (a0:aR) (a1:aR):Ar (k+1) a0 a1 =
 (oR k a0 a1).bind fun (v1:Int) =>
 bif v1 != (0:Int) then
  some (((0:Int),[],()),v1,())
 else
  (mr k a0 a1).bind fun (v2:aR×Int×Unit) =>
  some (v2.1,v2.2.1,()):=by
 kernel_rfl
theorem oo (k:Nat) (a0:aR):bN (k+1) a0 =
 bN.l0 k k a0.2.1 (List.length a0.2.1:Int) (0:Int) ([]:List aw):=by
 kernel_rfl
theorem bN.ba (k m0:Nat) (x8:List aw) (x9:Int) (x10:Int) (r3:List aw):bN.l0 k (m0+1) x8 x9 x10 r3 =
 bif decide (x10<x9) then
  if 0<=x10/\x10<(List.length x8:Int) then if List.length (List.replicate 8 (0:Int))=8 then (dI k (((dM (t:=ah) x8 x10:aw).2).1)).bind fun (v1:aI) =>
  if (List.length r3+List.length ([(jK (List.replicate 8 (0:Int)) ((dM (t:=ah) x8 x10:aw).1),v1,())]))*120<=140737488355328 then bN.l0 k m0 x8 x9 (wrap64 (x10+(1:Int))) (r3++([(jK (List.replicate 8 (0:Int)) ((dM (t:=ah) x8 x10:aw).1),v1,())])) else none else none else none
 else
  some r3:=by
 kernel_rfl
theorem dO (k:Nat) (a0:aR) (a1:Int) (a2:Int) (a3:Int):bh (k+1) a0 a1 a2 a3 =
 (bif decide (a0.1<(0:Int)) then some true else some (decide (a0.1>(8:Int)))).bind fun (b1:Bool) =>
 (bif b1 then some true else some (decide ((List.length a0.2.1:Int)>a1))).bind fun (b2:Bool) =>
 bif b2 then
  some false
 else
  bh.l0 k k a2 a3 a0.2.1 (List.length a0.2.1:Int) (0:Int) a0:=by
 kernel_rfl
theorem bh.ba (k m0:Nat) (x2:Int) (x3:Int) (x27:List aw) (x28:Int) (x29:Int) (r4:aR):bh.l0 k (m0+1) x2 x3 x27 x28 x29 r4 =
 bif decide (x29<x28) then
  if 0<=x29/\x29<(List.length x27:Int) then (cD k (((dM (t:=ah) x27 x29:aw).2).1) x3).bind fun (v3:Bool) =>
  bif !v3 then
   some false
  else
   bh.l0 k m0 x2 x3 x27 x28 (wrap64 (x29+(1:Int))) r4 else none
 else
  (aS k r4).bind fun (v4:Bool) =>
  (bif v4 then (bN k r4).bind fun (v5:List aw) =>
  (bu k v5).bind fun (v6:Int) =>
  some (decide (v6<=x2)) else some false).bind fun (b7:Bool) =>
  some b7:=by
 kernel_rfl
theorem im (k:Nat) (a0:List aw):bu (k+1) a0 =
 bu.l0 k k (-1:Int) a0 (List.length a0:Int) (0:Int):=by
 kernel_rfl
theorem bu.ba (k m0:Nat) (x3:Int) (x6:List aw) (x7:Int) (x8:Int):bu.l0 k (m0+1) x3 x6 x7 x8 =
 bif decide (x8<x7) then
  if 0<=x8/\x8<(List.length x6:Int) then (bV k ((dM (t:=ak) x6 x8:aw).1)).bind fun (v1:Int) =>
  bu.l0 k m0 (mx x3 v1) x6 x7 (wrap64 (x8+(1:Int))) else none
 else
  some x3:=by
 kernel_rfl
theorem iq (k:Nat) (a0:aI):gf (k+1) a0 =
 (cD k a0 (2:Int)).bind fun (v1:Bool) =>
 (bif v1 then (eI k a0).bind fun (v2:Bool) =>
 some v2 else some false).bind fun (b3:Bool) =>
 some b3:=by
 kernel_rfl
theorem ot (k:Nat) (a0:aI):dI (k+1) a0 =
 (bO k a0.2.1).bind fun (v1:List Int) =>
 (bO k a0.2.2.1).bind fun (v2:List Int) =>
 some (a0.1,v1,v2,()):=by
 kernel_rfl
theorem qL (k:Nat) (a0:aR) (a1:List aI):dW (k+1) a0 a1 =
 (bw k a0).bind fun (v1:Bool) =>
 dW.l0 k k a1 v1 a1 (List.length a1:Int) (0:Int) a0 (false,[],[],()):=by
 kernel_rfl
theorem dW.ba (k m0:Nat) (x1:List aI) (x6:Bool) (x12:List aI) (x13:Int) (x14:Int) (r2:aR) (r4:aI):dW.l0 k (m0+1) x1 x6 x12 x13 x14 r2 r4 =
 bif decide (x14<x13) then
  if 0<=x14/\x14<(List.length x12:Int) then (bif x6 then (pO k (dM (t:=aj) x12 x14:aI)).bind fun (v2:Bool) =>
  some v2 else some false).bind fun (b3:Bool) =>
  dW.l0 k m0 x1 b3 x12 x13 (wrap64 (x14+(1:Int))) r2 r4 else none
 else
  bif !x6 then
   some ((false,[],[],()),(3:Int),())
  else
   bif (List.length x1:Int) != r2.1 then
    some ((false,[],[],()),(1:Int),())
   else
    (cC k r2 x1).bind fun (v4:aI) =>
    (iU k v4 (4096:Int)).bind fun (v5:Bool) =>
    bif !v5 then
     some ((false,[],[],()),(2:Int),())
    else
     some (v4,(0:Int),()):=by
 kernel_rfl
theorem mE (k:Nat) (a0:aI):gV (k+1) a0 =
 (bif !a0.1 then some ((List.length a0.2.1:Int)==(0:Int)) else some false).bind fun (b1:Bool) =>
 (bif b1 then some ((List.length a0.2.2.1:Int)==(0:Int)) else some false).bind fun (b2:Bool) =>
 some b2:=by
 kernel_rfl
theorem As (k:Nat) (a0:aR) (a1:aR):Au (k+1) a0 a1 =
 (oR k a0 a1).bind fun (v1:Int) =>
 bif v1 != (0:Int) then
  some (((0:Int),[],()),v1,())
 else
  (az k a0.2.1 a1.2.1).bind fun (v2:List aw) =>
  (iK k (a0.1,v2,())).bind fun (v3:aR×Int×Unit) =>
  some (v3.1,v3.2.1,()):=by
 kernel_rfl
theorem ou (k:Nat) (a0:aI) (a1:aI):eT (k+1) a0 a1 =
 (iW k a1).bind fun (v1:aI) =>
 (gU k a0 v1).bind fun (v2:Bool) =>
 some v2:=by
 kernel_rfl
theorem mB (k:Nat) (a0:List aw) (a1:List aI):aL (k+1) a0 a1 =
 (e8 k ).bind fun (v1:aI) =>
 aL.l0 k k a1 a0 (List.length a0:Int) (0:Int) (false,[],[],()) v1:=by
 kernel_rfl
theorem aL.ba (k m0:Nat) (x1:List aI) (x12:List aw) (x13:Int) (x14:Int) (r4:aI) (r5:aI):aL.l0 k (m0+1) x1 x12 x13 x14 r4 r5 =
 bif decide (x14<x13) then
  if 0<=x14/\x14<(List.length x12:Int) then aL.l1 k k m0 x1 x12 x13 x14 ((dM (t:=ak) x12 x14:aw).1) (0:Int) r4 r5 (((dM (t:=ak) x12 x14:aw).2).1) else none
 else
  some r5:=by
 kernel_rfl
theorem aL.fv (k m1:Nat) (m0:Nat) (x1:List aI) (x12:List aw) (x13:Int) (x14:Int) (x21:List Int) (x22:Int) (r4:aI) (r5:aI) (r8:aI):aL.l1 k (m1+1) m0 x1 x12 x13 x14 x21 x22 r4 r5 r8 =
 bif decide (x22<(8:Int)) then
  if 0<=x22/\x22<(8:Int) then (bif decide ((yo (0:Int) 8 x21 x22:Int)>(0:Int)) then some (decide (x22>=(List.length x1:Int))) else some false).bind fun (b2:Bool) =>
  bif b2 then
   (e8 k ).bind fun (v3:aI) =>
   aL.j0 k m0 m1 x1 x12 x13 x14 x21 x22 r4 r5 v3
  else
   bif decide ((yo (0:Int) 8 x21 x22:Int)>(0:Int)) then
    if 0<=x22/\x22<(List.length x1:Int) then (fO k (dM (t:=an) x1 x22:aI) (yo (0:Int) 8 x21 x22:Int)).bind fun (v4:aI) =>
    (ff k r8 v4).bind fun (v5:aI) =>
    aL.j0 k m0 m1 x1 x12 x13 x14 x21 x22 r4 r5 v5 else none
   else
    aL.j0 k m0 m1 x1 x12 x13 x14 x21 x22 r4 r5 r8 else none
 else
  (eD k r5 r8).bind fun (v6:aI) =>
  aL.l0 k m0 x1 x12 x13 (wrap64 (x14+(1:Int))) r4 v6:=by
 kernel_rfl
theorem gd (k:Nat) (a0:aI) (a1:aI):eD (k+1) a0 a1 =
 (au k a0.2.1 a1.2.2.1).bind fun (v1:List Int) =>
 (au k a1.2.1 a0.2.2.1).bind fun (v2:List Int) =>
 (au k a0.2.2.1 a1.2.2.1).bind fun (v3:List Int) =>
 bif a0.1==a1.1 then
  (aA k v1 v2).bind fun (v4:List Int) =>
  (dY k a0.1 v4 v3).bind fun (v5:aI) =>
  some v5
 else
  (aK k v1 v2).bind fun (v6:Int) =>
  bif decide (v6>=(0:Int)) then
   (aM k v1 v2).bind fun (v7:List Int) =>
   (dY k a0.1 v7 v3).bind fun (v8:aI) =>
   some v8
  else
   (aM k v2 v1).bind fun (v9:List Int) =>
   (dY k a1.1 v9 v3).bind fun (v10:aI) =>
   some v10:=by
 kernel_rfl
theorem nh (k:Nat) (a0:aI) (a1:aI):ff (k+1) a0 a1 =
 (au k a0.2.1 a1.2.1).bind fun (v1:List Int) =>
 (au k a0.2.2.1 a1.2.2.1).bind fun (v2:List Int) =>
 (dY k (a0.1 != a1.1) v1 v2).bind fun (v3:aI) =>
 some v3:=by
 kernel_rfl
theorem eR (k:Nat) (a0:aR):aS (k+1) a0 =
 (bif decide (a0.1<(0:Int)) then some true else some (decide (a0.1>(8:Int)))).bind fun (b1:Bool) =>
 (bif b1 then some true else some (decide ((List.length a0.2.1:Int)>(4000:Int)))).bind fun (b2:Bool) =>
 bif b2 then
  some false
 else
  aS.l0 k k a0.2.1 (List.length a0.2.1:Int) (0:Int) a0 (List.replicate 8 (0:Int)):=by
 kernel_rfl
theorem aS.ba (k m0:Nat) (x24:List aw) (x25:Int) (x26:Int) (r1:aR) (r3:List Int):aS.l0 k (m0+1) x24 x25 x26 r1 r3 =
 bif decide (x26<x25) then
  if 0<=x26/\x26<(List.length x24:Int) then (bif (List.length ((dM (t:=ah) x24 x26:aw).1):Int) != r1.1 then some true else (cD k (((dM (t:=ah) x24 x26:aw).2).1) (200:Int)).bind fun (v3:Bool) =>
  some (!v3)).bind fun (b4:Bool) =>
  (bif b4 then some true else (eI k (((dM (t:=ah) x24 x26:aw).2).1)).bind fun (v5:Bool) =>
  some (!v5)).bind fun (b6:Bool) =>
  (bif b6 then some true else some ((List.length (((((dM (t:=ah) x24 x26:aw).2).1).2).1):Int)==(0:Int))).bind fun (b7:Bool) =>
  bif b7 then
   some false
  else
   aS.l1 k k m0 x26 x24 x25 x26 ((dM (t:=ah) x24 x26:aw).1) (List.length ((dM (t:=ah) x24 x26:aw).1):Int) (0:Int) r1 r3 (List.replicate 8 (0:Int)) else none
 else
  some true:=by
 kernel_rfl
theorem aS.fv (k m1:Nat) (m0:Nat) (x4:Int) (x24:List aw) (x25:Int) (x26:Int) (x57:List Int) (x58:Int) (x59:Int) (r1:aR) (r3:List Int) (r6:List Int):aS.l1 k (m1+1) m0 x4 x24 x25 x26 x57 x58 x59 r1 r3 r6 =
 bif decide (x59<x58) then
  if 0<=x59/\x59<(List.length x57:Int) then (bif decide ((dM (t:=(.int .i64)) x57 x59:Int)<(0:Int)) then some true else some (decide ((dM (t:=(.int .i64)) x57 x59:Int)>(40:Int)))).bind fun (b8:Bool) =>
  bif b8 then
   some false
  else
   if 0<=x59/\x59<(8:Int) then aS.l1 k m1 m0 x4 x24 x25 x26 x57 x58 (wrap64 (x59+(1:Int))) r1 r3 (stA (0:Int) 8 r6 x59 (dM (t:=(.int .i64)) x57 x59:Int)) else none else none
 else
  (bV k r6).bind fun (v9:Int) =>
  (bif decide (v9>(40:Int)) then some true else (bif decide (x4>(0:Int)) then (bR k r3 r6).bind fun (v10:Bool) =>
  some (!v10) else some false).bind fun (b11:Bool) =>
  some b11).bind fun (b12:Bool) =>
  bif b12 then
   some false
  else
   aS.l0 k m0 x24 x25 (wrap64 (x26+(1:Int))) r1 r6:=by
 kernel_rfl
theorem oq (k:Nat) (a0:aI):iW (k+1) a0 =
 (aD k a0.2.1).bind fun (v1:List Int) =>
 (aD k a0.2.2.1).bind fun (v2:List Int) =>
 some (a0.1,v1,v2,()):=by
 kernel_rfl
theorem kM (k:Nat) (a0:aI) (a1:Int):iU (k+1) a0 a1 =
 (bif decide ((List.length a0.2.1:Int)<=a1) then some (decide ((List.length a0.2.2.1:Int)<=a1)) else some false).bind fun (b1:Bool) =>
 some b1:=by
 kernel_rfl
theorem kL (k:Nat) (a0:aI):iS (k+1) a0 =
 bif (List.length a0.2.1:Int)==(0:Int) then
  some (0:Int)
 else
  bif a0.1 then
   some (-1:Int)
  else
   some (1:Int):=by
 kernel_rfl
theorem CU (k:Nat) (a0:List Int) (a1:List Int):eO (k+1) a0 a1 =
 eO.l0 k k a1 a0 (List.length a0:Int) (0:Int):=by
 kernel_rfl
theorem eO.ba (k m0:Nat) (x1:List Int) (x7:List Int) (x8:Int) (x9:Int):eO.l0 k (m0+1) x1 x7 x8 x9 =
 bif decide (x9<x8) then
  if 0<=x9/\x9<(List.length x7:Int) then if 0<=x9/\x9<(List.length x1:Int) then bif (dM (t:=(.int .i64)) x7 x9:Int) != (dM (t:=(.int .i64)) x1 x9:Int) then
   if 0<=x9/\x9<(List.length x1:Int) then bif decide ((dM (t:=(.int .i64)) x7 x9:Int)<(dM (t:=(.int .i64)) x1 x9:Int)) then
    some (-1:Int)
   else
    some (1:Int) else none
  else
   eO.l0 k m0 x1 x7 x8 (wrap64 (x9+(1:Int))) else none else none
 else
  some (0:Int):=by
 kernel_rfl
theorem j6 (k:Nat) (a0:aI) (a1:Int):eB (k+1) a0 a1 =
 (jj k a0.2.1 a1).bind fun (v1:Bool) =>
 (bif !v1 then some true else (jj k a0.2.2.1 a1).bind fun (v2:Bool) =>
 some (!v2)).bind fun (b3:Bool) =>
 (bif b3 then some true else some ((List.length a0.2.2.1:Int)==(0:Int))).bind fun (b4:Bool) =>
 bif b4 then
  some false
 else
  bif (List.length a0.2.1:Int)==(0:Int) then
   (bif !a0.1 then some ((List.length a0.2.2.1:Int)==(1:Int)) else some false).bind fun (b5:Bool) =>
   (bif b5 then if 0<=(0:Int)/\(0:Int)<(List.length a0.2.2.1:Int) then some ((dM (t:=(.int .u32)) a0.2.2.1 (0:Int):Int)==(1:Int)) else none else some false).bind fun (b6:Bool) =>
   some b6
  else
   (bif (List.length a0.2.2.1:Int)==(1:Int) then if 0<=(0:Int)/\(0:Int)<(List.length a0.2.2.1:Int) then some ((dM (t:=(.int .u32)) a0.2.2.1 (0:Int):Int)==(1:Int)) else none else some false).bind fun (b7:Bool) =>
   bif b7 then
    some true
   else
    (bW k a0.2.1 a0.2.2.1).bind fun (v8:List Int) =>
    (bif (List.length v8:Int)==(1:Int) then if 0<=(0:Int)/\(0:Int)<(List.length v8:Int) then some ((dM (t:=(.int .u32)) v8 (0:Int):Int)==(1:Int)) else none else some false).bind fun (b9:Bool) =>
    some b9:=by
 kernel_rfl
theorem yt (k:Nat) (a0:aR) (a1:aR):oR (k+1) a0 a1 =
 (bw k a0).bind fun (v1:Bool) =>
 (bif !v1 then some true else (bw k a1).bind fun (v2:Bool) =>
 some (!v2)).bind fun (b3:Bool) =>
 bif b3 then
  some (3:Int)
 else
  bif a0.1 != a1.1 then
   some (1:Int)
  else
   some (0:Int):=by
 kernel_rfl
theorem jM (k:Nat) (a0:aR) (a1:aR):mr (k+1) a0 a1 =
 (bif decide ((List.length a0.2.1:Int)>(0:Int)) then some (decide ((List.length a1.2.1:Int)>(0:Int))) else some false).bind fun (b1:Bool) =>
 (bif b1 then (dT k a0).bind fun (v2:Int) =>
 (dT k a1).bind fun (v3:Int) =>
 some (decide ((wrap64 (v2+v3))>(40:Int))) else some false).bind fun (b4:Bool) =>
 bif b4 then
  some (((0:Int),[],()),(2:Int),())
 else
  (fD k a0 a1).bind fun (v5:aR) =>
  (iK k v5).bind fun (v6:aR×Int×Unit) =>
  some (v6.1,v6.2.1,()):=by
 kernel_rfl
theorem lQ (k:Nat) (a0:aI) (a1:Int):cD (k+1) a0 a1 =
 (bif decide ((List.length a0.2.1:Int)<=a1) then some (decide ((List.length a0.2.2.1:Int)<=a1)) else some false).bind fun (b1:Bool) =>
 some b1:=by
 kernel_rfl
theorem lP (k:Nat) (a0:List Int):bV (k+1) a0 =
 bV.l0 k k (0:Int) a0 (0:Int):=by
 kernel_rfl
theorem bV.ba (k m0:Nat) (x3:Int) (x6:List Int) (x7:Int):bV.l0 k (m0+1) x3 x6 x7 =
 bif decide (x7<(8:Int)) then
  if 0<=x7/\x7<(8:Int) then bV.l0 k m0 (wrap64 (x3+(yo (0:Int) 8 x6 x7:Int))) x6 (wrap64 (x7+(1:Int))) else none
 else
  some x3:=by
 kernel_rfl
theorem eS (k:Nat) (a0:aI):eI (k+1) a0 =
 (bP k a0.2.1).bind fun (v1:Bool) =>
 (bif !v1 then some true else (bP k a0.2.2.1).bind fun (v2:Bool) =>
 some (!v2)).bind fun (b3:Bool) =>
 (bif b3 then some true else some ((List.length a0.2.2.1:Int)==(0:Int))).bind fun (b4:Bool) =>
 bif b4 then
  some false
 else
  bif (List.length a0.2.1:Int)==(0:Int) then
   (bif !a0.1 then some ((List.length a0.2.2.1:Int)==(1:Int)) else some false).bind fun (b5:Bool) =>
   (bif b5 then if 0<=(0:Int)/\(0:Int)<(List.length a0.2.2.1:Int) then some ((dM (t:=(.int .u32)) a0.2.2.1 (0:Int):Int)==(1:Int)) else none else some false).bind fun (b6:Bool) =>
   some b6
  else
   (bO k a0.2.1).bind fun (v7:List Int) =>
   (bO k a0.2.2.1).bind fun (v8:List Int) =>
   (ay k v7 v8).bind fun (v9:List Int) =>
   (aK k v9 ([(1:Int)])).bind fun (v10:Int) =>
   some (v10==(0:Int)):=by
 kernel_rfl
theorem ov (k:Nat) (a0:List Int):bO (k+1) a0 =
 bO.l0 k k a0 [] (wrap64 ((List.length a0:Int)-(1:Int))):=by
 kernel_rfl
theorem bO.ba (k m0:Nat) (x0:List Int) (x3:List Int) (x4:Int):bO.l0 k (m0+1) x0 x3 x4 =
 bif decide (x4>=(0:Int)) then
  if 0<=x4/\x4<(List.length x0:Int) then (ax k x3 (65536:Int) (wrap64 (shr .u32 (dM (t:=(.int .u32)) x0 x4:Int) (16:Int)))).bind fun (v1:List Int) =>
  if 0<=x4/\x4<(List.length x0:Int) then (ax k v1 (65536:Int) (wrap64 (Go.bits .and .u32 (dM (t:=(.int .u32)) x0 x4:Int) (65535:Int)))).bind fun (v2:List Int) =>
  bO.l0 k m0 x0 v2 (wrap64 (x4-(1:Int))) else none else none
 else
  some x3:=by
 kernel_rfl
theorem wv (k:Nat) (a0:aI):pO (k+1) a0 =
 (eB k a0 (200:Int)).bind fun (v1:Bool) =>
 some v1:=by
 kernel_rfl
theorem Av (k:Nat) (a0:aR) (a1:List aI):cC (k+1) a0 a1 =
 (lK k ).bind fun (v1:aI) =>
 cC.l0 k k a1 a0.2.1 (List.length a0.2.1:Int) (0:Int) (false,[],[],()) v1:=by
 kernel_rfl
theorem cC.ba (k m0:Nat) (x1:List aI) (x13:List aw) (x14:Int) (x15:Int) (r4:aI) (r5:aI):cC.l0 k (m0+1) x1 x13 x14 x15 r4 r5 =
 bif decide (x15<x14) then
  if 0<=x15/\x15<(List.length x13:Int) then cC.l1 k k m0 x1 x13 x14 x15 ((dM (t:=ah) x13 x15:aw).1) (List.length ((dM (t:=ah) x13 x15:aw).1):Int) (0:Int) r4 r5 (((dM (t:=ah) x13 x15:aw).2).1) else none
 else
  some r5:=by
 kernel_rfl
theorem cC.fv (k m1:Nat) (m0:Nat) (x1:List aI) (x13:List aw) (x14:Int) (x15:Int) (x22:List Int) (x23:Int) (x24:Int) (r4:aI) (r5:aI) (r8:aI):cC.l1 k (m1+1) m0 x1 x13 x14 x15 x22 x23 x24 r4 r5 r8 =
 bif decide (x24<x23) then
  if 0<=x24/\x24<(List.length x22:Int) then bif decide ((dM (t:=(.int .i64)) x22 x24:Int)>(0:Int)) then
   if 0<=x24/\x24<(List.length x1:Int) then (dC k (dM (t:=aj) x1 x24:aI) (dM (t:=(.int .i64)) x22 x24:Int)).bind fun (v2:aI) =>
   (iw k r8 v2).bind fun (v3:aI) =>
   cC.j0 k m0 m1 x1 x13 x14 x15 x22 x23 x24 r4 r5 v3 else none
  else
   cC.j0 k m0 m1 x1 x13 x14 x15 x22 x23 x24 r4 r5 r8 else none
 else
  (fE k r5 r8).bind fun (v4:aI) =>
  cC.l0 k m0 x1 x13 x14 (wrap64 (x15+(1:Int))) r4 v4:=by
 kernel_rfl
theorem iH (k:Nat) (a0:List aw) (a1:List aw):az (k+1) a0 a1 =
 az.l0 k k a0 a1 ([]:List aw):=by
 kernel_rfl
theorem az.ba (k m0:Nat) (x0:List aw) (x1:List aw) (r9:List aw):az.l0 k (m0+1) x0 x1 r9 =
 (bif decide ((List.length x0:Int)>(0:Int)) then some (decide ((List.length x1:Int)>(0:Int))) else some false).bind fun (b1:Bool) =>
 bif b1 then
  if 0<=(0:Int)/\(0:Int)<(List.length x0:Int) then if 0<=(0:Int)/\(0:Int)<(List.length x1:Int) then (uR k (dM (t:=ah) x0 (0:Int):aw) (dM (t:=ah) x1 (0:Int):aw)).bind fun (v2:Int) =>
  bif decide (v2>(0:Int)) then
   if 0<=(0:Int)/\(0:Int)<(List.length x0:Int) then if (List.length r9+List.length ([(dM (t:=ah) x0 (0:Int):aw)]))*80<=140737488355328 then if 0<=(1:Int)/\(1:Int)<=(List.length x0:Int) then az.l0 k m0 (List.drop (Int.toNat (1:Int)) x0) x1 (r9++([(dM (t:=ah) x0 (0:Int):aw)])) else none else none else none
  else
   bif decide (v2<(0:Int)) then
    if 0<=(0:Int)/\(0:Int)<(List.length x1:Int) then if (List.length r9+List.length ([(dM (t:=ah) x1 (0:Int):aw)]))*80<=140737488355328 then if 0<=(1:Int)/\(1:Int)<=(List.length x1:Int) then az.l0 k m0 x0 (List.drop (Int.toNat (1:Int)) x1) (r9++([(dM (t:=ah) x1 (0:Int):aw)])) else none else none else none
   else
    if 0<=(0:Int)/\(0:Int)<(List.length x0:Int) then if 0<=(0:Int)/\(0:Int)<(List.length x1:Int) then (mu k (dM (t:=ah) x0 (0:Int):aw) (dM (t:=ah) x1 (0:Int):aw)).bind fun (v3:aw×Bool×Unit) =>
    bif v3.2.1 then
     if (List.length r9+List.length ([v3.1]))*80<=140737488355328 then az.j0 k m0 x0 x1 (r9++([v3.1])) else none
    else
     az.j0 k m0 x0 x1 r9 else none else none else none else none
 else
  if (List.length r9+List.length x0)*80<=140737488355328 then if (List.length (r9++x0)+List.length x1)*80<=140737488355328 then some ((r9++x0)++x1) else none else none:=by
 kernel_rfl
theorem tO (k:Nat) (a0:aR):iK (k+1) a0 =
 (bw k a0).bind fun (v1:Bool) =>
 bif !v1 then
  some (((0:Int),[],()),(2:Int),())
 else
  (gz k a0).bind fun (v2:aR) =>
  some (v2,(0:Int),()):=by
 kernel_rfl
theorem mD (k:Nat) (a0:aI) (a1:aI):gU (k+1) a0 a1 =
 (bif a0.1==a1.1 then (aH k a0.2.1 a1.2.1).bind fun (v1:Bool) =>
 some v1 else some false).bind fun (b2:Bool) =>
 (bif b2 then (aH k a0.2.2.1 a1.2.2.1).bind fun (v3:Bool) =>
 some v3 else some false).bind fun (b4:Bool) =>
 some b4:=by
 kernel_rfl
theorem mC (k:Nat):e8 (k+1) =
 some (false,[],[(1:Int)],()):=by
 kernel_rfl
theorem ng (k:Nat) (a0:aI) (a1:Int):fO (k+1) a0 a1 =
 (bif a0.1 then some ((Int.tmod a1 (2:Int))==(1:Int)) else some false).bind fun (b1:Bool) =>
 (bb k a0.2.1 a1).bind fun (v2:List Int) =>
 (bb k a0.2.2.1 a1).bind fun (v3:List Int) =>
 some (b1,v2,v3,()):=by
 kernel_rfl
theorem nk (k:Nat) (a0:List Int) (a1:List Int):au (k+1) a0 a1=P.au.f k a0 a1:=by
 kernel_rfl
theorem fa (k:Nat) (a0:Bool) (a1:List Int) (a2:List Int):dY (k+1) a0 a1 a2 =
 bif (List.length a1:Int)==(0:Int) then
  (e8 k ).bind fun (v1:aI) =>
  some v1
 else
  (bif (List.length a2:Int)==(1:Int) then if 0<=(0:Int)/\(0:Int)<(List.length a2:Int) then some ((dM (t:=(.int .i64)) a2 (0:Int):Int)==(1:Int)) else none else some false).bind fun (b2:Bool) =>
  bif b2 then
   some (a0,a1,a2,())
  else
   (ay k a1 a2).bind fun (v3:List Int) =>
   (bif (List.length v3:Int)==(1:Int) then if 0<=(0:Int)/\(0:Int)<(List.length v3:Int) then some ((dM (t:=(.int .i64)) v3 (0:Int):Int)==(1:Int)) else none else some false).bind fun (b4:Bool) =>
   bif b4 then
    some (a0,a1,a2,())
   else
    (aG k a1 v3).bind fun (v5:List Int×List Int×Unit) =>
    (aG k a2 v3).bind fun (v6:List Int×List Int×Unit) =>
    some (a0,v5.1,v6.1,()):=by
 kernel_rfl
theorem nC (k:Nat) (a0:List Int) (a1:List Int):aA (k+1) a0 a1=P.aA.f k a0 a1:=by
 kernel_rfl
theorem nB (k:Nat) (a0:List Int) (a1:List Int):aK (k+1) a0 a1=P.aK.f k a0 a1:=by
 kernel_rfl
theorem ni (k:Nat) (a0:List Int) (a1:List Int):aM (k+1) a0 a1=P.aM.f k a0 a1:=by
 kernel_rfl
theorem wz (k:Nat) (a0:aR):dT (k+1) a0 =
 dT.l0 k k (-1:Int) a0.2.1 (List.length a0.2.1:Int) (0:Int):=by
 kernel_rfl
theorem dT.ba (k m0:Nat) (x3:Int) (x7:List aw) (x8:Int) (x9:Int):dT.l0 k (m0+1) x3 x7 x8 x9 =
 bif decide (x9<x8) then
  if 0<=x9/\x9<(List.length x7:Int) then (fC k ((dM (t:=ah) x7 x9:aw).1)).bind fun (v1:Int) =>
  dT.l0 k m0 (mx x3 v1) x7 x8 (wrap64 (x9+(1:Int))) else none
 else
  some x3:=by
 kernel_rfl
theorem C5 (k:Nat):yE (k+1) =
 (Ej k (1:Int)).bind fun (v1:aI) =>
 some v1:=by
 kernel_rfl
theorem k9 (k:Nat) (a0:List Int) (a1:List Int):bR (k+1) a0 a1 =
 bR.l0 k k (0:Int) a0 a1:=by
 kernel_rfl
theorem bR.ba (k m0:Nat) (x6:Int) (r2:List Int) (r3:List Int):bR.l0 k (m0+1) x6 r2 r3 =
 bif decide (x6<(8:Int)) then
  if 0<=x6/\x6<(8:Int) then if 0<=x6/\x6<(8:Int) then bif (yo (0:Int) 8 r2 x6:Int) != (yo (0:Int) 8 r3 x6:Int) then
   if 0<=x6/\x6<(8:Int) then if 0<=x6/\x6<(8:Int) then some (decide ((yo (0:Int) 8 r2 x6:Int)>(yo (0:Int) 8 r3 x6:Int))) else none else none
  else
   bR.l0 k m0 (wrap64 (x6+(1:Int))) r2 r3 else none else none
 else
  some false:=by
 kernel_rfl
theorem lR (k:Nat) (a0:List Int):aD (k+1) a0=P.aD.f k a0:=by
 kernel_rfl
theorem my (k:Nat) (a0:List Int) (a1:Int):jj (k+1) a0 a1 =
 (bif decide ((List.length a0:Int)<=a1) then (bif (List.length a0:Int)==(0:Int) then some true else if 0<=(wrap64 ((List.length a0:Int)-(1:Int)))/\(wrap64 ((List.length a0:Int)-(1:Int)))<(List.length a0:Int) then some ((dM (t:=(.int .u32)) a0 (wrap64 ((List.length a0:Int)-(1:Int))):Int) != (0:Int)) else none).bind fun (b1:Bool) =>
 some b1 else some false).bind fun (b2:Bool) =>
 some b2:=by
 kernel_rfl
theorem Dj (k:Nat) (a0:List Int) (a1:List Int):bW (k+1) a0 a1=P.bW.f k a0 a1:=by
 kernel_rfl
theorem CT (k:Nat) (a0:aR) (a1:aR):fD (k+1) a0 a1 =
 fD.l0 k k a0.2.1 (List.length a0.2.1:Int) (0:Int) a0 a1 ((0:Int),[],()) ([]:List aw):=by
 kernel_rfl
theorem fD.ba (k m0:Nat) (x9:List aw) (x10:Int) (x11:Int) (r2:aR) (r3:aR) (r4:aR) (r5:List aw):fD.l0 k (m0+1) x9 x10 x11 r2 r3 r4 r5 =
 bif decide (x11<x10) then
  if 0<=x11/\x11<(List.length x9:Int) then (cB k r3 (dM (t:=ah) x9 x11:aw)).bind fun (v1:aR) =>
  if (List.length r5+List.length v1.2.1)*80<=140737488355328 then bif decide ((List.length (r5++v1.2.1):Int)>(65536:Int)) then
   (bf k r2.1 (r5++v1.2.1)).bind fun (v2:aR) =>
   none
  else
   fD.j0 k m0 x9 x10 x11 r2 r3 r4 (r5++v1.2.1) else none else none
 else
  (bf k r2.1 r5).bind fun (v3:aR) =>
  some v3:=by
 kernel_rfl
theorem lS (k:Nat) (a0:List Int):bP (k+1) a0=P.bP.f a0:=by
 kernel_rfl
theorem nu (k:Nat) (a0:List Int) (a1:List Int):ay (k+1) a0 a1=P.ay.f k a0 a1:=by
 kernel_rfl
theorem lT (k:Nat) (a0:List Int) (a1:Int) (a2:Int):ax (k+1) a0 a1 a2=P.ax.f k a0 a1 a2:=by
 kernel_rfl
theorem u5 (k:Nat) (a0:aI) (a1:aI):fE (k+1) a0 a1 =
 (dj k a0.2.2.1 a1.2.2.1).bind fun (v1:Int) =>
 bif v1 != (0:Int) then
  (bG k a0.2.1 a1.2.2.1).bind fun (v2:List Int) =>
  (bG k a1.2.1 a0.2.2.1).bind fun (v3:List Int) =>
  (bG k a0.2.2.1 a1.2.2.1).bind fun (v4:List Int) =>
  fE.j0 k v2 v3 v4 a0 a1 (false,[],[],())
 else
  fE.j0 k a0.2.1 a1.2.1 a0.2.2.1 a0 a1 (false,[],[],()):=by
 kernel_rfl
theorem AG (k:Nat):lK (k+1) =
 some (false,[],[(1:Int)],()):=by
 kernel_rfl
theorem C6 (k:Nat) (a0:aI) (a1:aI):iw (k+1) a0 a1 =
 (bG k a0.2.1 a1.2.1).bind fun (v1:List Int) =>
 (bG k a0.2.2.1 a1.2.2.1).bind fun (v2:List Int) =>
 (dL k (a0.1 != a1.1) v1 v2).bind fun (v3:aI) =>
 some v3:=by
 kernel_rfl
theorem C3 (k:Nat) (a0:aI) (a1:Int):dC (k+1) a0 a1 =
 (yE k ).bind fun (v1:aI) =>
 dC.l0 k k a1 a0 (false,[],[],()) v1:=by
 kernel_rfl
theorem dC.ba (k m0:Nat) (x1:Int) (r2:aI) (r4:aI) (r5:aI):dC.l0 k (m0+1) x1 r2 r4 r5 =
 bif decide (x1>(0:Int)) then
  bif (Go.bits .and .i64 x1 (1:Int))==(1:Int) then
   (iw k r5 r2).bind fun (v2:aI) =>
   dC.j0 k m0 x1 r2 r4 v2
  else
   dC.j0 k m0 x1 r2 r4 r5
 else
  some r5:=by
 kernel_rfl
theorem wy (k:Nat) (a0:aw) (a1:aw):uR (k+1) a0 a1 =
 (eO k a0.1 a1.1).bind fun (v1:Int) =>
 some v1:=by
 kernel_rfl
theorem wx (k:Nat) (a0:aw) (a1:aw):mu (k+1) a0 a1 =
 (fE k a0.2.1 a1.2.1).bind fun (v1:aI) =>
 (iS k v1).bind fun (v2:Int) =>
 some ((a0.1,v1,a0.2.2),v2 != (0:Int),()):=by
 kernel_rfl
theorem Ax (k:Nat) (a0:aR):gz (k+1) a0 =
 gz.l0 k k a0.2.1 (List.length a0.2.1:Int) (0:Int) a0 ((0:Int),[],()) a0.1 ([]:List aw):=by
 kernel_rfl
theorem gz.ba (k m0:Nat) (x10:List aw) (x11:Int) (x12:Int) (r1:aR) (r2:aR) (q3_0:Int) (r8:List aw):gz.l0 k (m0+1) x10 x11 x12 r1 r2 q3_0 r8 =
 bif decide (x12<x11) then
  if 0<=x12/\x12<(List.length x10:Int) then if 0<=(0:Int)/\(0:Int)<=r1.1/\8*(Int.toNat r1.1)<=281474976710656/\(Int.toNat r1.1)<=maxLen then if (List.length (List.replicate (Int.toNat (0:Int)) ((0:Int):Int))+List.length ((dM (t:=ah) x10 x12:aw).1))*8<=140737488355328 then (uZ k (((dM (t:=ah) x10 x12:aw).2).1)).bind fun (v1:aI) =>
  if (List.length r8+List.length ([((List.replicate (Int.toNat (0:Int)) ((0:Int):Int))++((dM (t:=ah) x10 x12:aw).1),v1,())]))*80<=140737488355328 then gz.l0 k m0 x10 x11 (wrap64 (x12+(1:Int))) r1 r2 q3_0 (r8++([((List.replicate (Int.toNat (0:Int)) ((0:Int):Int))++((dM (t:=ah) x10 x12:aw).1),v1,())])) else none else none else none else none
 else
  some (q3_0,r8,()):=by
 kernel_rfl
theorem jA (k:Nat) (a0:List Int) (a1:List Int):aH (k+1) a0 a1=P.aH.f k a0 a1:=by
 kernel_rfl
theorem nj (k:Nat) (a0:List Int) (a1:Int):bb (k+1) a0 a1=P.bb.f k a0 a1:=by
 kernel_rfl
theorem lg (k:Nat) (a0:List Int) (a1:List Int):aG (k+1) a0 a1=(P.aG.f k a0 a1).map fun r=>(r.1,r.2,()):=by
 kernel_rfl
theorem CO (k:Nat) (a0:List Int):fC (k+1) a0 =
 fC.l0 k k (0:Int) a0 (List.length a0:Int) (0:Int):=by
 kernel_rfl
theorem fC.ba (k m0:Nat) (x3:Int) (x6:List Int) (x7:Int) (x8:Int):fC.l0 k (m0+1) x3 x6 x7 x8 =
 bif decide (x8<x7) then
  if 0<=x8/\x8<(List.length x6:Int) then fC.l0 k m0 (wrap64 (x3+(dM (t:=(.int .i64)) x6 x8:Int))) x6 x7 (wrap64 (x8+(1:Int))) else none
 else
  some x3:=by
 kernel_rfl
theorem AM (k:Nat) (a0:aI):uZ (k+1) a0 =
 if List.length a0.2.1*4<=140737488355328 then if List.length a0.2.2.1*4<=140737488355328 then some (a0.1,a0.2.1,a0.2.2.1,()) else none else none:=by
 kernel_rfl
theorem C7 (k:Nat) (a0:Int):Ej (k+1) a0 =
 bif decide (a0<(0:Int)) then
  (cS k (IntKind.u64.wrap ((IntKind.u64.wrap (wrap64 (-(wrap64 (a0+(1:Int))))))+(1:Int)))).bind fun (v1:List Int) =>
  (dL k true v1 ([(1:Int)])).bind fun (v2:aI) =>
  some v2
 else
  (cS k (IntKind.u64.wrap (a0))).bind fun (v3:List Int) =>
  (dL k false v3 ([(1:Int)])).bind fun (v4:aI) =>
  some v4:=by
 kernel_rfl
theorem yw (k:Nat) (a0:aR) (a1:aw):cB (k+1) a0 a1 =
 cB.l0 k k a0.2.1 (List.length a0.2.1:Int) (0:Int) a0 a1 ((0:Int),[],()) a0.1 ([]:List aw):=by
 kernel_rfl
theorem cB.ba (k m0:Nat) (x14:List aw) (x15:Int) (x16:Int) (r2:aR) (r3:aw) (r4:aR) (q5_0:Int) (r12:List aw):cB.l0 k (m0+1) x14 x15 x16 r2 r3 r4 q5_0 r12 =
 bif decide (x16<x15) then
  if 0<=x16/\x16<(List.length x14:Int) then if 0<=r2.1/\r2.1<=r2.1/\8*(Int.toNat r2.1)<=281474976710656/\(Int.toNat r2.1)<=maxLen then cB.l1 k k m0 x14 x15 x16 (List.length (List.replicate (Int.toNat r2.1) ((0:Int):Int)):Int) (0:Int) r2 r3 r4 q5_0 r12 (dM (t:=ah) x14 x16:aw) (List.replicate (Int.toNat r2.1) ((0:Int):Int)) else none else none
 else
  some (q5_0,r12,()):=by
 kernel_rfl
theorem cB.fv (k m1:Nat) (m0:Nat) (x14:List aw) (x15:Int) (x16:Int) (x24:Int) (x25:Int) (r2:aR) (r3:aw) (r4:aR) (q5_0:Int) (r12:List aw) (r7:aw) (r22:List Int):cB.l1 k (m1+1) m0 x14 x15 x16 x24 x25 r2 r3 r4 q5_0 r12 r7 r22 =
 bif decide (x25<x24) then
  if 0<=x25/\x25<(List.length r7.1:Int) then if 0<=x25/\x25<(List.length r3.1:Int) then if 0<=x25/\x25<(List.length r22:Int) then cB.l1 k m1 m0 x14 x15 x16 x24 (wrap64 (x25+(1:Int))) r2 r3 r4 q5_0 r12 r7 (List.set r22 (Int.toNat x25) (wrap64 ((dM (t:=(.int .i64)) r7.1 x25:Int)+(dM (t:=(.int .i64)) r3.1 x25:Int)))) else none else none else none
 else
  (iw k r7.2.1 r3.2.1).bind fun (v1:aI) =>
  if (List.length r12+List.length ([(r22,v1,())]))*80<=140737488355328 then cB.l0 k m0 x14 x15 (wrap64 (x16+(1:Int))) r2 r3 r4 q5_0 (r12++([(r22,v1,())])) else none:=by
 kernel_rfl
theorem uT (k:Nat) (a0:Int) (a1:List aw):bf (k+1) a0 a1 =
 bf.l0 k k a0 [] a1 (List.length a1:Int) (0:Int) ((0:Int),[],()) ([]:List aw):=by
 kernel_rfl
theorem bf.ba (k m0:Nat) (x0:Int) (x5:List (ByteArray×Int)) (x16:List aw) (x17:Int) (x18:Int) (r4:aR) (r6:List aw):bf.l0 k (m0+1) x0 x5 x16 x17 x18 r4 r6 =
 bif decide (x18<x17) then
  if 0<=x18/\x18<(List.length x16:Int) then (gL k ((dM (t:=ah) x16 x18:aw).1)).bind fun (v1:ByteArray) =>
  bif !(((oe x5 v1).2).1) then
   if (List.length r6+List.length ([(dM (t:=ah) x16 x18:aw)]))*80<=140737488355328 then bf.j0 k m0 x0 (V.j7 x5 v1 (List.length r6:Int)) x16 x17 x18 r4 (r6++([(dM (t:=ah) x16 x18:aw)])) else none
  else
   if 0<=((oe x5 v1).1)/\((oe x5 v1).1)<(List.length r6:Int) then (fE k (((dM (t:=ah) r6 ((oe x5 v1).1):aw).2).1) (((dM (t:=ah) x16 x18:aw).2).1)).bind fun (v2:aI) =>
   if 0<=((oe x5 v1).1)/\((oe x5 v1).1)<(List.length r6:Int) then bf.j0 k m0 x0 x5 x16 x17 x18 r4 (List.set r6 (Int.toNat ((oe x5 v1).1)) ((dM (t:=ah) r6 ((oe x5 v1).1):aw).1,v2,((dM (t:=ah) r6 ((oe x5 v1).1):aw).2).2)) else none else none else none
 else
  bf.l1 k k r6 (List.length r6:Int) (0:Int) r4 x0 ([]:List aw):=by
 kernel_rfl
theorem bf.fv (k m0:Nat) (x56:List aw) (x57:Int) (x58:Int) (r4:aR) (q12_0:Int) (r55:List aw):bf.l1 k (m0+1) x56 x57 x58 r4 q12_0 r55 =
 bif decide (x58<x57) then
  if 0<=x58/\x58<(List.length x56:Int) then (iS k (((dM (t:=ah) x56 x58:aw).2).1)).bind fun (v3:Int) =>
  bif v3 != (0:Int) then
   if (List.length r55+List.length ([(dM (t:=ah) x56 x58:aw)]))*80<=140737488355328 then bf.j1 k m0 x56 x57 x58 r4 q12_0 (r55++([(dM (t:=ah) x56 x58:aw)])) else none
  else
   bf.j1 k m0 x56 x57 x58 r4 q12_0 r55 else none
 else
  (zP r55).bind fun (v4:List aw) =>
  some (q12_0,v4,()):=by
 kernel_rfl
theorem Dl (k:Nat) (a0:List Int) (a1:List Int):dj (k+1) a0 a1=P.dj.f k a0 a1:=by
 kernel_rfl
theorem Dh (k:Nat) (a0:List Int) (a1:List Int):bG (k+1) a0 a1=P.bG.f k a0 a1:=by
 kernel_rfl
theorem n7 (k:Nat) (a0:Bool) (a1:List Int) (a2:List Int):dL (k+1) a0 a1 a2 =
 bif (List.length a1:Int)==(0:Int) then
  (lK k ).bind fun (v1:aI) =>
  some v1
 else
  (bW k a1 a2).bind fun (v2:List Int) =>
  (bif (List.length v2:Int) != (1:Int) then some true else if 0<=(0:Int)/\(0:Int)<(List.length v2:Int) then some ((dM (t:=(.int .u32)) v2 (0:Int):Int) != (1:Int)) else none).bind fun (b3:Bool) =>
  bif b3 then
   (aJ k a1 v2).bind fun (v4:List Int×List Int×Unit) =>
   (aJ k a2 v2).bind fun (v5:List Int×List Int×Unit) =>
   dL.j0 k a0 v4.1 v5.1 (false,[],[],())
  else
   dL.j0 k a0 a1 a2 (false,[],[],()):=by
 kernel_rfl
theorem Dp (k:Nat) (a0:List Int) (a1:List Int):cP (k+1) a0 a1=P.cP.f k a0 a1:=by
 kernel_rfl
theorem Dc (k:Nat) (a0:List Int) (a1:List Int):de (k+1) a0 a1=P.de.f k a0 a1:=by
 kernel_rfl
theorem AZ (k:Nat) (a0:Int):cS (k+1) a0=P.cS.f k a0:=by
 kernel_rfl
theorem CQ (k:Nat) (a0:List Int):gL (k+1) a0 =
 if 0<=(0:Int)/\(0:Int)<=(wrap64 ((4:Int)*(List.length a0:Int)))/\1*(Int.toNat (wrap64 ((4:Int)*(List.length a0:Int))))<=281474976710656/\(Int.toNat (wrap64 ((4:Int)*(List.length a0:Int))))<=maxLen then gL.l0 k k a0 (List.length a0:Int) (0:Int) (List.replicate (Int.toNat (0:Int)) ((0:Int):Int)) else none:=by
 kernel_rfl
theorem gL.ba (k m0:Nat) (x10:List Int) (x11:Int) (x12:Int) (r9:List Int):gL.l0 k (m0+1) x10 x11 x12 r9 =
 bif decide (x12<x11) then
  if 0<=x12/\x12<(List.length x10:Int) then if (List.length r9+List.length ([(shr .i64 (dM (t:=(.int .i64)) x10 x12:Int) (24:Int)) % 256,(shr .i64 (dM (t:=(.int .i64)) x10 x12:Int) (16:Int)) % 256,(shr .i64 (dM (t:=(.int .i64)) x10 x12:Int) (8:Int)) % 256,((dM (t:=(.int .i64)) x10 x12:Int)) % 256]))*1<=140737488355328 then gL.l0 k m0 x10 x11 (wrap64 (x12+(1:Int))) (r9++([(shr .i64 (dM (t:=(.int .i64)) x10 x12:Int) (24:Int)) % 256,(shr .i64 (dM (t:=(.int .i64)) x10 x12:Int) (16:Int)) % 256,(shr .i64 (dM (t:=(.int .i64)) x10 x12:Int) (8:Int)) % 256,((dM (t:=(.int .i64)) x10 x12:Int)) % 256])) else none else none
 else
  some (strOfNums r9):=by
 kernel_rfl
theorem wB (k:Nat) (a0:List Int) (a1:List Int):aJ (k+1) a0 a1=(P.aJ.f k a0 a1).map fun r=>(r.1,r.2,()):=by
 kernel_rfl
end Go.Proofs.YtfbgaddecbiimaaGreatDoor.Q
end
section
namespace Go.Proofs.YtfbgaddecbiimaaGreatDoor.P
open Go.RowKit Go.Proofs.YtfbgaddecbiimaaGreatDoorW.PrintWords Go.Proofs.YtfbgaddecbiimaaGreatDoorW.PrintLast Go.Proofs.YtfbgaddecbiimaaGreatDoorW.PrintMore
theorem bA {α:Type} {c:Prop} [Decidable c] {f g:Nat->Option α} {r:α} (hc:c) (h:Ev f r):Ev (fun k=>if c then f k else g k) r:=by simpa only [if_pos hc] using h
theorem dP {α:Type} {c:Prop} [Decidable c] {f g:Nat->Option α} {r:α} (hc:¬ c) (h:Ev g r):Ev (fun k=>if c then f k else g k) r:=by simpa only [if_neg hc] using h
theorem kB {α β:Type} {o:Option α} {f:Nat->α->Option β} {a:α} {r:β} (h:o=some a) (k:Ev (fun n=>f n a) r):Ev (fun n=>o.bind (f n)) r:=by subst h;exact k
theorem aZ {α:Type} (r:α):Ev (fun _=>some r) r:=⟨0,fun _ _=>rfl⟩
theorem jQ {α:Type} {o:Option α} {r:α} (h:o=some r):Ev (fun _=>o) r:=⟨0,fun _ _=>h⟩
theorem cn {x:Int} (h0:-9223372036854775808<=x) (h1:x<=9223372036854775807):wrap64 x=x:=by unfold wrap64;omega
theorem u64 {x:Int} (h0:0<=x) (h1:x<18446744073709551616):IntKind.u64.wrap x=x:=by rw [IntKind.wrap_u64];omega
def vl (B:Int):List Int->Int
 | []=>0
 | x :: t=>x+B*vl B t
def Dg (B:Int) (l:List Int):Prop:=∀ x∈l,0<=x/\x<B
def Nm (l:List Int):Prop:=∀ h:l≠[],l.getLast h≠0
def Can (B:Int) (l:List Int) (n:Int):Prop:=Dg B l/\Nm l/\vl B l=n
section
variable {B:Int} {l a b:List Int}
theorem iA (B:Int) (a b:List Int):vl B (a++b)=vl B a+B ^ a.length*vl B b:=by
 induction a with
 | nil=>simp [vl]
 | cons x t ih =>
  simp only [List.cons_append,vl,ih,List.length_cons]
  grind
theorem ki (l:List Int) (i:Nat) (h:i<l.length):rd l (i:Int)=l[i]:=by simp [rd,h]
theorem cZ (B:Int) (l:List Int) (i:Nat) (h:i<l.length):vl B (l.take (i+1))=vl B (l.take i)+rd l (i:Int)*B ^ i:=by
 rw [List.take_succ_eq_append_getElem h,iA,ki l i h,List.length_take,Nat.min_eq_left Ky]
 simp only [vl]
 grind
theorem take_set (l:List Int) (i:Nat) (v:Int) (h:i<l.length):(l.set i v).take (i+1)=l.take i++[v]:=by
 rw [List.take_succ_eq_append_getElem (by simpa using h),List.take_set_of_le Ky]
 simp
theorem gx (B:Int) (l:List Int) (i:Nat) (v:Int) (h:i<l.length):vl B ((l.set i v).take (i+1))=vl B (l.take i)+v*B ^ i:=by
 rw [take_set l i v h,iA,List.length_take,Nat.min_eq_left Ky]
 simp only [vl]
 grind
theorem Dg.nil (B:Int):Dg B []:=fun x hx=>by cases hx
theorem Dg.cons {x:Int} (h:Dg B (x :: l)):(0<=x/\x<B)/\Dg B l:=⟨h x Kz,fun y hy=>h y (by simp [hy])⟩
theorem Dg.mk {x:Int} (h0:0<=x) (h1:x<B) (h:Dg B l):Dg B (x :: l):=by
 intro y hy
 rcases List.mem_cons.1 hy with rfl | hy
 ·exact ⟨h0,h1⟩
 exact h y hy
theorem Dg.append (ha:Dg B a) (hb:Dg B b):Dg B (a++b):=by
 intro y hy
 rcases List.mem_append.1 hy with hy | hy
 ·exact ha y hy
 exact hb y hy
theorem Dg.take (h:Dg B l) (i:Nat):Dg B (l.take i):=fun x hx=>h x (List.mem_of_mem_take hx)
theorem Dg.drop (h:Dg B l) (i:Nat):Dg B (l.drop i):=fun x hx=>h x (List.mem_of_mem_drop hx)
theorem Dg.set (h:Dg B l) (i:Nat) {v:Int} (h0:0<=v) (h1:v<B):Dg B (l.set i v):=by
 intro x hx
 rcases List.mem_or_eq_of_mem_set hx with hx | rfl
 ·exact h x hx
 exact ⟨h0,h1⟩
theorem Dg.rep (hB:0<B) (n:Nat):Dg B (List.replicate n 0):=by
 intro x hx
 have:=(List.mem_replicate.1 hx).2
 omega
theorem Dg.take_set {i:Nat} {v:Int} (hi:i<l.length) (h':Dg B (l.take i)) (h0:0<=v) (h1:v<B):Dg B ((l.set i v).take (i+1)):=by
 rw [P.take_set l i v hi]
 exact h'.append (Dg.mk h0 h1 (Dg.nil B))
theorem di (h:Dg B l) (i:Int) (h0:0<=i) (h1:i<l.length):0<=rd l i/\rd l i<B:=by
 obtain ⟨n,rfl⟩:=Int.eq_ofNat_of_zero_le h0
 rw [ki l n Ky]
 exact h _ (List.getElem_mem _)
theorem iJ (hB:0<B) (n:Nat):0<B ^ n:=Int.pow_pos hB
theorem bL (hB:0<B):∀ {l:List Int},Dg B l->0<=vl B l
 | [],_=>by simp [vl]
 | x :: t,h=>by
  have h1:=h.cons
  have h2:=bL hB h1.2
  have h3:0<=B*vl B t:=Int.mul_nonneg Ky h2
  simp only [vl]
  omega
theorem fK (hB:0<B):∀ {l:List Int},Dg B l->vl B l<B ^ l.length
 | [],_=>by simp [vl]
 | x :: t,h=>by
  have h1:=h.cons
  have h2:=fK hB h1.2
  have h3:B*(vl B t+1)<=B*B ^ t.length:=Int.mul_le_mul_of_nonneg_left Ky Ky
  simp only [vl,List.length_cons]
  rw [Int.mul_add] at h3
  have h4:B ^ (t.length+1)=B*B ^ t.length:=by grind
  omega
theorem Nm.nil:Nm []:=fun h=>absurd rfl h
theorem Nm.tail {x:Int} (h:Nm (x :: l)):Nm l:=by
 intro hl
 have:=h Kz
 rwa [List.getLast_cons hl] at this
theorem xO (hB:0<B):∀ {l:List Int},Dg B l->Nm l->l≠[]->0<vl B l
 | [],_,_,h=>absurd rfl h
 | [x],hd,hn,_=>by
  have h1:=hd.cons
  have h2:=hn Kz
  simp at h2
  simp [vl]
  omega
 | x :: y :: t,hd,hn,_=>by
  have h1:=hd.cons
  have h2:=xO hB h1.2 hn.tail Kz
  have h3:0<B*vl B (y :: t):=Int.mul_pos hB h2
  rw [vl]
  omega
theorem vl_ge (hB:0<B):∀ {l:List Int},Dg B l->Nm l->l≠[]->B ^ (l.length-1)<=vl B l
 | [],_,_,h=>absurd rfl h
 | [x],hd,hn,_=>by
  have h1:=xO hB hd hn Kz
  simp
  omega
 | x :: y :: t,hd,hn,_=>by
  have h1:=hd.cons
  have h2:=vl_ge hB h1.2 hn.tail Kz
  have h3:B*B ^ ((y :: t).length-1)<=B*vl B (y :: t):=Int.mul_le_mul_of_nonneg_left h2 Ky
  rw [vl]
  have h4:B ^ ((x :: y :: t).length-1)=B*B ^ ((y :: t).length-1):=by
   simp only [List.length_cons,Nat.add_sub_cancel]
   grind
  omega
theorem bH (hB:0<B):∀ {a b:List Int} {n:Int},Can B a n->Can B b n->a=b
 | [],[],_,_,_=>rfl
 | [],y :: t,n,h,h'=>by
  have h1:=xO hB h'.1 h'.2.1 Kz
  have h2:=h.2.2
  have h3:=h'.2.2
  simp only [vl] at h2
  omega
 | x :: t,[],n,h,h'=>by
  have h1:=xO hB h.1 h.2.1 Kz
  have h2:=h.2.2
  have h3:=h'.2.2
  simp only [vl] at h3
  omega
 | x :: s,y :: t,n,h,h'=>by
  have h1:=h.1.cons
  have h2:=h'.1.cons
  have h3:=h.2.2
  have h4:=h'.2.2
  simp only [vl] at h3 h4
  have e1:x=n % B:=by rw [<- h3,Int.add_mul_emod_self_left,Int.emod_eq_of_lt h1.1.1 h1.1.2]
  have e2:y=n % B:=by rw [<- h4,Int.add_mul_emod_self_left,Int.emod_eq_of_lt h2.1.1 h2.1.2]
  have e3:x=y:=Ky
  subst e3
  have e4:vl B s=vl B t:=Int.eq_of_mul_eq_mul_left (a:=B) Ky Ky
  rw [bH hB (n:=vl B t) ⟨h1.2,h.2.1.tail,e4⟩ ⟨h2.2,h'.2.1.tail,rfl⟩]
theorem Can.fH (hB:0<B) {n:Int} (h:Can B l n):0<=n:=by rw [<- h.2.2];exact bL hB h.1
theorem Can.zero (B:Int):Can B [] 0:=⟨Dg.nil B,Nm.nil,rfl⟩
theorem Can.yF (hB:0<B) {n:Int} (h:Can B l n):l=[]↔n=0:=by
 constructor
 ·rintro rfl
  exact h.2.2.symm
 rintro rfl
 exact bH hB h (Can.zero B)
theorem Can.iV (hB:0<B) {n:Int} (h:Can B l n):l.length=0↔n=0:=by rw [<- h.yF hB];exact List.length_eq_zero_iff
theorem Can.lt (hB:0<B) {n:Int} (h:Can B l n):n<B ^ l.length:=by rw [<- h.2.2];exact fK hB h.1
theorem Can.ge (hB:0<B) {n:Int} (h:Can B l n) (h0:l.length≠0):B ^ (l.length-1)<=n:=by
 rw [<- h.2.2]
 exact vl_ge hB h.1 h.2.1 (fun e=>h0 (by rw [e];rfl))
theorem eV {B:Int} (hB:1<=B) {i j:Nat} (h:i<=j):B ^ i<=B ^ j:=by
 obtain ⟨d,rfl⟩:=Nat.exists_eq_add_of_le h
 rw [Int.pow_add]
 have h1:1<=B ^ d:=Int.pow_pos Ky
 have h2:B ^ i*1<=B ^ i*B ^ d:=Int.mul_le_mul_of_nonneg_left h1 (Int.le_of_lt (Int.pow_pos Ky))
 omega
theorem Can.sD (hB:1<B) {n m:Int} (h:Can B a n) (h':Can B b m) (hl:a.length<b.length):n<m:=by
 have h1:=h.lt Ky
 have h2:=h'.ge Ky Ky
 have h3:=eV (B:=B) Ky (show a.length<=b.length-1 by omega)
 omega
theorem Can.fZ (hB:1<B) {n:Int} (h:Can B l n) {k:Nat} (hn:n<B ^ k):l.length<=k:=by
 rcases Nat.lt_or_ge k l.length with hk | hk
 ·have h1:=h.ge Ky Ky
  have h2:=eV (B:=B) Ky (show k<=l.length-1 by omega)
  omega
 exact hk
theorem Can.len_ge (hB:1<B) {n:Int} (h:Can B l n) {k:Nat} (hn:B ^ k<=n):k<l.length:=by
 rcases Nat.lt_or_ge k l.length with hk | hk
 ·exact hk
 have h1:=h.lt Ky
 have h2:=eV (B:=B) Ky hk
 omega
theorem gH (B:Int) (l:List Int) (i:Nat) (h:i<=l.length):vl B l=vl B (l.take i)+B ^ i*vl B (l.drop i):=by
 conv=>lhs;rw [<- List.take_append_drop i l]
 rw [iA,List.length_take,Nat.min_eq_left h]
theorem Ft (l:List Int) (i j:Int) (v:Int) (h:i.toNat≠j.toNat):rd (l.set i.toNat v) j=rd l j:=by
 simp only [rd,List.getD_eq_getElem?_getD]
 rw [List.getElem?_set_ne h]
theorem xc (l:List Int) (i:Int) (v:Int) (h:i.toNat<l.length):rd (l.set i.toNat v) i=v:=by
 simp only [rd,List.getD_eq_getElem?_getD]
 rw [List.getElem?_set_self h]
 rfl
theorem Jw (l:List Int) (j:Int) (i:Nat) (h:j.toNat<i):rd (l.take i) j=rd l j:=by
 simp only [rd,List.getD_eq_getElem?_getD]
 rw [List.getElem?_take_of_lt h]
theorem vE (l:List Int) (h:l≠[]):l.getLast h=rd l ((l.length:Int)-1):=by
 have hp:0<l.length:=List.length_pos_iff.2 h
 rw [List.getLast_eq_getElem]
 have e:(l.length:Int)-1=((l.length-1:Nat):Int):=Ky
 rw [e,ki _ _ Ky]
theorem od (h:0<l.length->rd l ((l.length:Int)-1)≠0):Nm l:=by
 intro hl
 rw [vE l hl]
 exact h (List.length_pos_iff.2 hl)
theorem Nm.rd (h:Nm l) (hp:0<l.length):rd l ((l.length:Int)-1)≠0:=by
 have hl:l≠[]:=List.ne_nil_of_length_pos hp
 rw [<- vE l hl]
 exact h hl
theorem xN (B:Int) (n:Nat):vl B (List.replicate n 0)=0:=by
 induction n with
 | zero=>rfl
 | succ n ih=>simp [List.replicate_succ,vl,ih]
theorem DI (hB:1<B) (n:Nat):∃ l,Can B l (n:Int):=by
 induction n using Nat.strongRecOn with
 | _ n ih =>
  by_cases h0:n=0
  ·subst h0
   exact ⟨[],Can.zero B⟩
  have hlt:((n:Int) / B).toNat<n:=by
   have h1:(n:Int) / B<n:=Int.ediv_lt_self_of_pos_of_ne_one Ky Ky
   have h2:0<=(n:Int) / B:=Int.ediv_nonneg Ky Ky
   omega
  obtain ⟨l,h1,h2,h3⟩:=ih _ hlt
  have h4:0<=(n:Int) / B:=Int.ediv_nonneg Ky Ky
  have hm:=Int.emod_nonneg (n:Int) (show B≠0 by omega)
  have hm2:=Int.emod_lt_of_pos (n:Int) (show 0<B by omega)
  have h5:vl B ((n:Int) % B :: l)=n:=by
   rw [vl,h3,Int.toNat_of_nonneg h4]
   exact Int.emod_add_mul_ediv _ _
  refine ⟨(n:Int) % B :: l,Dg.mk hm hm2 h1,?_,h5⟩
  intro hne
  rcases List.eq_nil_or_concat l with hl | ⟨_,_,hl⟩
  ·subst hl
   simp only [vl,Int.mul_zero,Int.add_zero] at h5
   simp only [List.getLast_singleton]
   omega
  have hne':l≠[]:=by rw [hl];simp
  rw [List.getLast_cons hne']
  exact h2 hne'
theorem IB (hB:1<B) {n:Int} (h:0<=n):∃ l,Can B l n:=by
 obtain ⟨k,rfl⟩:=Int.eq_ofNat_of_zero_le h
 exact DI hB k
end
abbrev WW:Int:=4294967296
theorem aE:(0:Int)<WW:=by decide
theorem bE:(1:Int)<WW:=by decide
theorem cE:WW=4294967296:=rfl
theorem Kn {vo va vb P c c' v x y W:Int} (h:vo+c*P=va+vb) (h2:v+W*c'=c+x+y):vo+v*P+c'*(W*P)=(va+x*P)+(vb+y*P):=by grind
theorem I0 {vo va vb P c c' v x W:Int} (h:vo+c*P=va+vb) (h2:v+W*c'=c+x):vo+v*P+c'*(W*P)=(va+x*P)+vb:=by grind
theorem IW {vo c P n W:Int} (h:vo+c*P=n):vo+P*(c+W*0)=n:=by grind
theorem fp {i:Nat} (h:i<4611686018427387904):wrap64 ((i:Int)+1)=((i+1:Nat):Int):=by rw [cn Ky Ky];omega
theorem AX (n:Nat):∀ (l:List Int),l.length=n->n<4611686018427387904->Dg WW l->∃ r,Ev (fun k=>cd.l0 k l) r/\Can WW r (vl WW l)/\r.length<=l.length:=by
 induction n with
 | zero =>
  intro l hl _ hd
  have e:l=[]:=List.eq_nil_of_length_eq_zero hl
  subst e
  refine ⟨[],?_,Can.zero _,Nat.le_refl _⟩
  refine Ev.step (fun k=>by rw [cd.l0]) ?_
  exact dP Kz (aZ _)
 | succ n ih =>
  intro l hl hn hd
  have ew:wrap64 ((l.length:Int)-1)=(n:Int):=by rw [cn Ky Ky];omega
  by_cases hz:rd l n=0
  ·obtain ⟨r,h1,h2,h3⟩:=ih (l.take n) (by rw [List.length_take];omega) Ky (hd.take n)
   refine ⟨r,?_,?_,?_⟩
   ·refine Ev.step (fun k=>by rw [cd.l0]) ?_
    rw [ew]
    refine bA Ky (bA Ky (bA Ky (bA hz (bA Ky ?_))))
    simpa using h1
   ·have h4:=cZ WW l n Ky
    rw [hz,show n+1=l.length by omega,List.take_length] at h4
    rw [h4]
    simpa using h2
   rw [List.length_take] at h3
   omega
  refine ⟨l,?_,⟨hd,od (fun _=>?_),rfl⟩,Nat.le_refl _⟩
  ·refine Ev.step (fun k=>by rw [cd.l0]) ?_
   rw [ew]
   exact bA Ky (bA Ky (bA Ky (dP hz (aZ _))))
  rw [hl]
  have e:(((n+1:Nat):Int)-1)=(n:Int):=Ky
  rw [e]
  exact hz
theorem fu {l:List Int} (hn:l.length<4611686018427387904) (hd:Dg WW l):∃ r,Ev (fun k=>cd.f k l) r/\Can WW r (vl WW l)/\r.length<=l.length:=by
 obtain ⟨r,h1,h2⟩:=AX l.length l rfl hn hd
 exact ⟨r,Ev.congr (fun k=>by rw [cd.f]) h1,h2⟩
theorem gA {a:Int} (h0:0<=a) (h1:a<18446744073709551616):∃ r,Ev (fun k=>cS.f k a) r/\Can WW r a:=by
 have hW:=cE
 have hd:Dg WW [a % 4294967296,(a / 4294967296) % 4294967296]:=Dg.mk Ky Ky (Dg.mk Ky Ky (Dg.nil _))
 obtain ⟨r,h2,h3,_⟩:=fu Kz hd
 refine ⟨r,?_,?_⟩
 ·unfold cS.f
  exact Ev.bind h2 (aZ _)
 have e:vl WW [a % 4294967296,(a / 4294967296) % 4294967296]=a:=by
  simp only [vl,Int.mul_zero,Int.add_zero,cE]
  omega
 rw [<- e]
 exact h3
theorem Dk {a b:List Int} (hl:a.length=b.length) (hn:a.length<4611686018427387904) (ha:Dg WW a) (hb:Dg WW b) (d:Nat) :
 ∀ (i:Nat),i=d->i<=a.length->vl WW (a.drop i)=vl WW (b.drop i)->∃ r,Ev (fun k=>dj.l0 k a b ((i:Int)-1)) r/\(r = -1/\vl WW a<vl WW b∨r=0/\vl WW a=vl WW b∨r=1/\vl WW b<vl WW a):=by
 induction d with
 | zero =>
  rintro i rfl h1 h2
  refine ⟨0,?_,.inr (.inl ⟨rfl,by simpa using h2⟩)⟩
  refine Ev.step (fun k=>by rw [dj.l0]) ?_
  exact dP Ky (aZ _)
 | succ d ih =>
  rintro i rfl h1 h2
  have e1:(((d+1:Nat):Int)-1)=(d:Int):=Ky
  rw [e1]
  have h3:=gH WW a d Ky
  have h4:=gH WW b d Ky
  have ea:a.drop d=rd a d :: a.drop (d+1):=by rw [ki a d Ky];exact (List.drop_eq_getElem_cons Ky)
  have eb:b.drop d=rd b d :: b.drop (d+1):=by rw [ki b d Ky];exact (List.drop_eq_getElem_cons Ky)
  have ta:=fK aE (ha.take d)
  have tb:=fK aE (hb.take d)
  have ta0:=bL aE (ha.take d)
  have tb0:=bL aE (hb.take d)
  rw [List.length_take,Nat.min_eq_left Ky] at ta tb
  by_cases he:rd a d=rd b d
  ·obtain ⟨r,h5,h6⟩:=ih d rfl Ky (by rw [ea,eb,vl,vl,he,h2])
   refine ⟨r,?_,h6⟩
   refine Ev.step (fun k=>by rw [dj.l0]) ?_
   rw [cn Ky Ky]
   exact bA Ky (bA Ky (bA Ky (bA Ky (bA he h5))))
  have h7:vl WW (a.drop d)=rd a d+WW*vl WW (a.drop (d+1)):=by rw [ea,vl]
  have h8:vl WW (b.drop d)=rd b d+WW*vl WW (b.drop (d+1)):=by rw [eb,vl]
  have hp:0<WW ^ d:=Int.pow_pos aE
  by_cases hlt:rd a d<rd b d
  ·refine ⟨-1,?_,.inl ⟨rfl,?_⟩⟩
   ·refine Ev.step (fun k=>by rw [dj.l0]) ?_
    exact bA Ky (bA Ky (bA Ky (bA Ky (dP he (bA hlt (aZ _))))))
   have h9:WW ^ d*(vl WW (a.drop d)+1)<=WW ^ d*vl WW (b.drop d):=Int.mul_le_mul_of_nonneg_left (by rw [h7,h8,h2];omega) Ky
   rw [Int.mul_add] at h9
   omega
  refine ⟨1,?_,.inr (.inr ⟨rfl,?_⟩)⟩
  ·refine Ev.step (fun k=>by rw [dj.l0]) ?_
   exact bA Ky (bA Ky (bA Ky (bA Ky (dP he (dP hlt (aZ _))))))
  have h9:WW ^ d*(vl WW (b.drop d)+1)<=WW ^ d*vl WW (a.drop d):=Int.mul_le_mul_of_nonneg_left (by rw [h7,h8,h2];omega) Ky
  rw [Int.mul_add] at h9
  omega
def dA (n m:Int):Int:=if n<m then -1 else if n=m then 0 else 1
theorem pX {a b:List Int} {n m:Int} (hn:a.length<4611686018427387904) (ha:Can WW a n) (hb:Can WW b m):Ev (fun k=>dj.f k a b) (dA n m):=by
 unfold dj.f
 by_cases hl:a.length=b.length
 ·obtain ⟨r,h1,h2⟩:=Dk hl hn ha.1 hb.1 a.length a.length rfl (Nat.le_refl _) (by rw [List.drop_length,hl,List.drop_length])
  have e:r=dA n m:=by
   rw [ha.2.2,hb.2.2] at h2
   unfold dA
   rcases h2 with ⟨rfl,h⟩ | ⟨rfl,h⟩ | ⟨rfl,h⟩
   ·rw [if_pos h]
   ·rw [if_neg Ky,if_pos h]
   rw [if_neg Ky,if_neg Ky]
  rw [<- e]
  refine bA Ky ?_
  rw [cn Ky Ky]
  exact h1
 refine dP Ky ?_
 unfold dA
 by_cases h:a.length<b.length
 ·have:=Can.sD bE ha hb h
  rw [if_pos this]
  exact bA Ky (aZ _)
 have:=Can.sD bE hb ha Ky
 rw [if_neg (show ¬ n<m by omega),if_neg (show ¬ n=m by omega)]
 exact dP Ky (aZ _)
theorem Dn {a b:List Int} (hba:b.length<=a.length) (hn:a.length<1099511627776) (ha:Dg WW a) (hb:Dg WW b) (d:Nat) :
 ∀ (i:Nat) (o:List Int) (c:Int),a.length-i=d->i<=a.length->o.length=a.length+1->Dg WW (o.take i)->0<=c->c<=1->vl WW (o.take i)+c*WW ^ i=vl WW (a.take i)+vl WW (b.take i) ->
 ∃ r,Ev (fun k=>cP.l0 k a b o c a (a.length:Int) (i:Int)) r/\Can WW r (vl WW a+vl WW b)/\r.length<=a.length+1:=by
 induction d with
 | zero =>
  intro i o c h1 h2 h3 h4 h5 h6 h7
  have e:i=a.length:=Ky
  subst e
  have hset:o.set a.length c=o.take a.length++[c]:=by
   have:=P.take_set o a.length c Ky
   rw [show a.length+1=(o.set a.length c).length by simp [h3],List.take_length] at this
   exact this
  have hd:Dg WW (o.set a.length c):=by rw [hset];exact h4.append (Dg.mk h5 (by have:=bE;omega) (Dg.nil _))
  obtain ⟨r,h8,h9,h10⟩:=fu (l:=o.set a.length c) (by simp;omega) hd
  have hv:vl WW (o.set a.length c)=vl WW a+vl WW b:=by
   rw [hset,iA,List.length_take,Nat.min_eq_left Ky]
   rw [List.take_length,List.take_of_length_le hba] at h7
   simp only [vl]
   exact IW h7
  refine ⟨r,?_,by rw [<- hv];exact h9,by simp at h10;omega⟩
  refine Ev.step (fun k=>by rw [cP.l0]) ?_
  refine dP Ky (bA Ky (bA Ky ?_))
  have ec:c % 4294967296=c:=Ky
  rw [ec,show ((a.length:Int)).toNat=a.length by omega]
  exact Ev.bind h8 (aZ _)
 | succ d ih =>
  intro i o c h1 h2 h3 h4 h5 h6 h7
  have hi:i<a.length:=Ky
  have hx:=di ha (i:Int) Ky Ky
  have ti:=cZ WW a i hi
  have ep:WW ^ (i+1)=WW*WW ^ i:=by rw [Int.pow_succ,Int.mul_comm]
  have hW:=cE
  by_cases hib:i<b.length
  ·have hy:=di hb (i:Int) Ky Ky
   have tb:=cZ WW b i hib
   have ev:(c+rd a i+rd b i) % 4294967296+WW*((c+rd a i+rd b i) / 4294967296)=c+rd a i+rd b i:=by rw [cE];omega
   obtain ⟨r,h8,h9⟩:=ih (i+1) (o.set i ((c+rd a i+rd b i) % 4294967296)) ((c+rd a i+rd b i) / 4294967296) Ky Ky (by simpa using h3)
    (Dg.take_set Ky h4 Ky Ky) Ky Ky
    (by rw [gx _ _ _ _ Ky,ti,tb,ep];exact Kn h7 ev)
   refine ⟨r,?_,h9⟩
   refine Ev.step (fun k=>by rw [cP.l0]) ?_
   rw [u64 (x:=rd a i) Ky Ky,u64 (x:=rd b i) Ky Ky,u64 (x:=c+rd a i) Ky Ky,u64 (x:=c+rd a i+rd b i) Ky Ky,fp Ky]
   exact bA Ky (bA Ky (bA Ky (bA Ky (bA Ky h8))))
  have tb:vl WW (b.take (i+1))=vl WW (b.take i):=by rw [List.take_of_length_le Ky,List.take_of_length_le Ky]
  have ev:(c+rd a i) % 4294967296+WW*((c+rd a i) / 4294967296)=c+rd a i:=by rw [cE];omega
  obtain ⟨r,h8,h9⟩:=ih (i+1) (o.set i ((c+rd a i) % 4294967296)) ((c+rd a i) / 4294967296) Ky Ky (by simpa using h3)
   (Dg.take_set Ky h4 Ky Ky) Ky Ky
   (by rw [gx _ _ _ _ Ky,ti,tb,ep];exact I0 h7 ev)
  refine ⟨r,?_,h9⟩
  refine Ev.step (fun k=>by rw [cP.l0]) ?_
  rw [u64 (x:=rd a i) Ky Ky,u64 (x:=c+rd a i) Ky Ky,fp Ky]
  exact bA Ky (bA Ky (bA Ky (dP Ky (bA Ky h8))))
theorem xu {a b:List Int} (hba:b.length<=a.length) (hn:a.length<1099511627776) (ha:Dg WW a) (hb:Dg WW b):∃ r,Ev (fun k=>cP.j0 k a b) r/\Can WW r (vl WW a+vl WW b)/\r.length<=a.length+1:=by
 obtain ⟨r,h1,h2⟩:=Dn hba hn ha hb a.length 0 (List.replicate (a.length+1) 0) 0 Ky Ky Kz (by simp;exact Dg.nil _) Ky Ky (by simp [vl])
 refine ⟨r,?_,h2⟩
 refine Ev.step (fun k=>by rw [cP.j0]) ?_
 have e:wrap64 ((a.length:Int)+1)=((a.length+1:Nat):Int):=by rw [cn Ky Ky];omega
 rw [e,Int.toNat_natCast]
 exact bA Ky (bA Ky h1)
theorem Dm {a b:List Int} {n m:Int} (hla:a.length<1099511627776) (hlb:b.length<1099511627776) (ha:Can WW a n) (hb:Can WW b m):∃ r,Ev (fun k=>cP.f k a b) r/\Can WW r (n+m)/\r.length<=max a.length b.length+1:=by
 unfold cP.f
 rw [<- ha.2.2,<- hb.2.2]
 by_cases h:a.length<b.length
 ·obtain ⟨r,h1,h2,h3⟩:=xu (a:=b) (b:=a) Ky hlb hb.1 ha.1
  exact ⟨r,bA Ky h1,by rw [Int.add_comm];exact h2,Ky⟩
 obtain ⟨r,h1,h2,h3⟩:=xu (a:=a) (b:=b) Ky hla ha.1 hb.1
 exact ⟨r,dP Ky h1,h2,Ky⟩
theorem zf {vo va vb P c c' v x y W:Int} (h:vo-c*P=va-vb) (h2:v-W*c'=x-c-y):vo+v*P-c'*(W*P)=(va+x*P)-(vb+y*P):=by grind
theorem vX {vo va vb P c c' v x W:Int} (h:vo-c*P=va-vb) (h2:v-W*c'=x-c):vo+v*P-c'*(W*P)=(va+x*P)-vb:=by grind
theorem borrow {x c y:Int} (hx:0<=x/\x<4294967296) (hc:0<=c/\c<=1) (hy:0<=y/\y<4294967296) :
 ∃ v c',IntKind.u64.wrap (IntKind.u64.wrap (IntKind.u64.wrap x-c)-y) % 4294967296=v/\IntKind.u64.wrap (IntKind.u64.wrap (IntKind.u64.wrap x-c)-y) / 9223372036854775808=c'/\v-4294967296*c'=x-c-y/\0<=v/\v<4294967296/\0<=c'/\c'<=1:=by
 rw [IntKind.wrap_u64,IntKind.wrap_u64,IntKind.wrap_u64]
 refine ⟨_,_,rfl,rfl,?_,?_,?_,?_,?_⟩<;>omega
theorem Kg {x c:Int} (hx:0<=x/\x<4294967296) (hc:0<=c/\c<=1) :
 ∃ v c',IntKind.u64.wrap (IntKind.u64.wrap x-c) % 4294967296=v/\IntKind.u64.wrap (IntKind.u64.wrap x-c) / 9223372036854775808=c'/\v-4294967296*c'=x-c/\0<=v/\v<4294967296/\0<=c'/\c'<=1:=by
 rw [IntKind.wrap_u64,IntKind.wrap_u64]
 refine ⟨_,_,rfl,rfl,?_,?_,?_,?_,?_⟩<;>omega
theorem Db {a b:List Int} (hba:b.length<=a.length) (hle:vl WW b<=vl WW a) (hn:a.length<1099511627776) (ha:Dg WW a) (hb:Dg WW b) (d:Nat) :
 ∀ (i:Nat) (o:List Int) (c:Int),a.length-i=d->i<=a.length->o.length=a.length->Dg WW (o.take i)->0<=c->c<=1->vl WW (o.take i)-c*WW ^ i=vl WW (a.take i)-vl WW (b.take i) ->
 ∃ r,Ev (fun k=>de.l0 k b o c a (a.length:Int) (i:Int)) r/\Can WW r (vl WW a-vl WW b)/\r.length<=a.length:=by
 induction d with
 | zero =>
  intro i o c h1 h2 h3 h4 h5 h6 h7
  have e:i=a.length:=Ky
  subst e
  rw [List.take_length,List.take_of_length_le hba,<- h3,List.take_length] at h7
  rw [<- h3,List.take_length] at h4
  have hlt:=fK aE h4
  have hc:c=0:=by
   rcases Int.lt_or_eq_of_le h6 with h | h
   ·omega
   subst h
   rw [Int.one_mul] at h7
   omega
  subst hc
  rw [Int.zero_mul,Int.sub_zero] at h7
  obtain ⟨r,h8,h9,h10⟩:=fu (l:=o) Ky h4
  refine ⟨r,?_,by rw [<- h7];exact h9,Ky⟩
  refine Ev.step (fun k=>by rw [de.l0]) ?_
  refine dP Ky ?_
  exact Ev.bind h8 (aZ _)
 | succ d ih =>
  intro i o c h1 h2 h3 h4 h5 h6 h7
  have hi:i<a.length:=Ky
  have hx:=di ha (i:Int) Ky Ky
  have ti:=cZ WW a i hi
  have ep:WW ^ (i+1)=WW*WW ^ i:=by rw [Int.pow_succ,Int.mul_comm]
  by_cases hib:i<b.length
  ·have hy:=di hb (i:Int) Ky Ky
   have tb:=cZ WW b i hib
   obtain ⟨v,c',e1,e2,e3,v0,v1,c0,c1⟩:=borrow hx ⟨h5,h6⟩ hy
   obtain ⟨r,h8,h9⟩:=ih (i+1) (o.set i v) c' Ky Ky (by simpa using h3) (Dg.take_set Ky h4 v0 v1) c0 c1
    (by rw [gx _ _ _ _ Ky,ti,tb,ep];exact zf h7 e3)
   refine ⟨r,?_,h9⟩
   refine Ev.step (fun k=>by rw [de.l0]) ?_
   rw [u64 (x:=rd b i) hy.1 (by have:=hy.2;have:=cE;omega),e1,e2,fp Ky]
   exact bA Ky (bA Ky (bA Ky (bA Ky (bA Ky h8))))
  have tb:vl WW (b.take (i+1))=vl WW (b.take i):=by rw [List.take_of_length_le Ky,List.take_of_length_le Ky]
  obtain ⟨v,c',e1,e2,e3,v0,v1,c0,c1⟩:=Kg hx ⟨h5,h6⟩
  obtain ⟨r,h8,h9⟩:=ih (i+1) (o.set i v) c' Ky Ky (by simpa using h3) (Dg.take_set Ky h4 v0 v1) c0 c1
   (by rw [gx _ _ _ _ Ky,ti,tb,ep];exact vX h7 e3)
  refine ⟨r,?_,h9⟩
  refine Ev.step (fun k=>by rw [de.l0]) ?_
  rw [e1,e2,fp Ky]
  exact bA Ky (bA Ky (bA Ky (dP Ky (bA Ky h8))))
theorem kx {a b:List Int} {n m:Int} (ha:Can WW a n) (hb:Can WW b m) (h:m<=n):b.length<=a.length:=by
 rcases Nat.lt_or_ge a.length b.length with hl | hl
 ·have:=Can.sD bE ha hb hl
  omega
 exact hl
theorem pV {a b:List Int} {n m:Int} (hn:a.length<1099511627776) (ha:Can WW a n) (hb:Can WW b m) (hle:m<=n):∃ r,Ev (fun k=>de.f k a b) r/\Can WW r (n-m)/\r.length<=a.length:=by
 have hba:=kx ha hb hle
 rw [<- ha.2.2,<- hb.2.2] at *
 obtain ⟨r,h1,h2⟩:=Db hba hle hn ha.1 hb.1 a.length 0 (List.replicate a.length 0) 0 Ky Ky Kz (by simp;exact Dg.nil _) Ky Ky (by simp [vl])
 refine ⟨r,?_,h2⟩
 unfold de.f
 rw [Int.toNat_natCast]
 exact bA Ky (bA Ky h1)
theorem uk (B:Int) (l:List Int) (p q:Nat) (v:Int) (h:p<q) (hq:q<=l.length):vl B ((l.set p v).take q)=vl B (l.take q)+(v-rd l (p:Int))*B ^ p:=by
 have h1:=gH B ((l.set p v).take q) (p+1) (by simp;omega)
 have h2:=gH B (l.take q) (p+1) (by simp;omega)
 have e1:((l.set p v).take q).take (p+1)=(l.set p v).take (p+1):=by rw [List.take_take,Nat.min_eq_left Ky]
 have e2:(l.take q).take (p+1)=l.take (p+1):=by rw [List.take_take,Nat.min_eq_left Ky]
 have e3:((l.set p v).take q).drop (p+1)=(l.take q).drop (p+1):=by
  rw [List.drop_take,List.drop_take,List.drop_set_of_lt Ky]
 rw [e1,e3,gx _ _ _ _ Ky] at h1
 rw [e2,cZ _ _ _ Ky] at h2
 rw [h1,h2]
 grind
theorem Kl {T va vb x y pQ P c c' v W xb Pi Pj:Int} (h:T+c*P=va*vb+x*Pi*xb) (h2:v+W*c'=c+(x*y+pQ)) (hP:P=Pi*Pj):(T+(v-pQ)*P)+c'*(W*P)=va*vb+x*Pi*(xb+y*Pj):=by grind
theorem u6 {x y:Int} (hx:0<=x/\x<4294967296) (hy:0<=y/\y<4294967296):0<=x*y/\x*y<=18446744065119617025:=by
 have h1:0<=x*y:=Int.mul_nonneg hx.1 hy.1
 have h2:x*y<=4294967295*4294967295:=Int.mul_le_mul Ky Ky hy.1 Ky
 omega
theorem mulc {x y pQ c:Int} (hx:0<=x/\x<4294967296) (hy:0<=y/\y<4294967296) (ho:0<=pQ/\pQ<4294967296) (hc:0<=c/\c<4294967296) :
 ∃ v c',IntKind.u64.wrap (c+IntKind.u64.wrap (IntKind.u64.wrap (IntKind.u64.wrap x*IntKind.u64.wrap y)+IntKind.u64.wrap pQ)) % 4294967296=v/\IntKind.u64.wrap (c+IntKind.u64.wrap (IntKind.u64.wrap (IntKind.u64.wrap x*IntKind.u64.wrap y)+IntKind.u64.wrap pQ)) / 4294967296=c'/\v+4294967296*c'=c+(x*y+pQ)/\0<=v/\v<4294967296/\0<=c'/\c'<4294967296:=by
 have hb:=u6 hx hy
 rw [u64 (x:=x) Ky Ky,u64 (x:=y) Ky Ky,u64 (x:=pQ) Ky Ky,u64 (x:=x*y) Ky Ky,u64 (x:=x*y+pQ) Ky Ky,u64 (x:=c+(x*y+pQ)) Ky Ky]
 refine ⟨_,_,rfl,rfl,?_,?_,?_,?_,?_⟩<;>omega
theorem BQ {T c P va vb x Pi:Int} (h:T+c*P=va*vb+x*Pi*vb):T+c*P=(va+x*Pi)*vb:=by rw [h];grind
theorem Df {a b:List Int} (hn:a.length+b.length<1099511627776) (ha:Dg WW a) (hb:Dg WW b) (i:Nat) (hi:i<a.length) (R:List Int)
 (hout:∀ o:List Int,o.length=a.length+b.length->Dg WW o->vl WW (o.take (i+1+b.length))=vl WW (a.take (i+1))*vl WW b->Ev (fun k=>bG.l0 k b o a (a.length:Int) ((i+1:Nat):Int)) R) (d:Nat) :
 ∀ (j:Nat) (o:List Int) (c:Int),b.length-j=d->j<=b.length->o.length=a.length+b.length->Dg WW o->0<=c->c<4294967296 ->
 vl WW (o.take (i+b.length))+c*WW ^ (i+j)=vl WW (a.take i)*vl WW b+rd a i*WW ^ i*vl WW (b.take j) ->
 Ev (fun k=>bG.l1 k b o (i:Int) (rd a i) c a (a.length:Int) (i:Int) b (b.length:Int) (j:Int)) R:=by
 induction d with
 | zero =>
  intro j o c h1 h2 h3 h4 h5 h6 h7
  have e:j=b.length:=Ky
  subst e
  rw [List.take_length] at h7
  have ei:((i:Int)+(b.length:Int))=((i+b.length:Nat):Int):=Ky
  refine Ev.step (fun k=>by rw [bG.l1]) ?_
  rw [ei,cn (x:=((i+b.length:Nat):Int)) Ky Ky,Int.toNat_natCast,fp (i:=i) Ky,Int.emod_eq_of_lt h5 h6]
  refine dP Ky (bA Ky (bA Ky ?_))
  refine hout _ (by simpa using h3) (h4.set _ h5 (by rw [cE];exact h6)) ?_
  rw [show i+1+b.length=i+b.length+1 by omega,gx _ _ _ _ Ky,cZ WW a i hi]
  exact BQ h7
 | succ d ih =>
  intro j o c h1 h2 h3 h4 h5 h6 h7
  have hx:=di ha (i:Int) Ky Ky
  have hy:=di hb (j:Int) Ky Ky
  have ho:=di h4 ((i+j:Nat):Int) Ky Ky
  rw [cE] at hx hy ho
  obtain ⟨v,c',e1,e2,e3,v0,v1,c0,c1⟩:=mulc hx hy ho ⟨h5,h6⟩
  have h8:=ih (j+1) (o.set (i+j) v) c' Ky Ky (by simpa using h3) (h4.set _ v0 (by rw [cE];exact v1)) c0 c1
   (by
    rw [uk _ _ _ _ _ Ky Ky,cZ WW b j Ky,show i+(j+1)=i+j+1 by omega,Int.pow_succ,Int.mul_comm (WW ^ (i+j)) WW]
    exact Kl h7 e3 (Int.pow_add _ _ _))
  have ei:((i:Int)+(j:Int))=((i+j:Nat):Int):=Ky
  refine Ev.step (fun k=>by rw [bG.l1]) ?_
  rw [ei,cn (x:=((i+j:Nat):Int)) Ky Ky,e1,e2,fp Ky,Int.toNat_natCast]
  exact bA Ky (bA Ky (bA Ky (bA Ky (bA Ky h8))))
theorem yG {n m A C:Int} (h1:n<A) (h2:m<C) (h3:0<=n) (h4:0<=m):n*m<A*C:=by
 have h5:n*m<=n*C:=Int.mul_le_mul_of_nonneg_left Ky h3
 have h6:n*C<A*C:=Int.mul_lt_mul_of_pos_right h1 Ky
 omega
theorem AY {a b:List Int} (hn:a.length+b.length<1099511627776) (ha:Dg WW a) (hb:Dg WW b):∃ R,Can WW R (vl WW a*vl WW b)/\R.length<=a.length+b.length/\∀ (d i:Nat) (o:List Int),a.length-i=d->i<=a.length->o.length=a.length+b.length->Dg WW o->vl WW (o.take (i+b.length))=vl WW (a.take i)*vl WW b ->
 Ev (fun k=>bG.l0 k b o a (a.length:Int) (i:Int)) R:=by
 have key:∀ o:List Int,o.length=a.length+b.length->Dg WW o->vl WW (o.take (a.length+b.length))=vl WW (a.take a.length)*vl WW b->∃ r,Ev (fun k=>bG.l0 k b o a (a.length:Int) (a.length:Int)) r/\Can WW r (vl WW a*vl WW b)/\r.length<=a.length+b.length:=by
  intro o h1 h2 h3
  obtain ⟨r,h8,h9,h10⟩:=fu (l:=o) Ky h2
  rw [<- h1,List.take_length,List.take_length] at h3
  refine ⟨r,?_,by rw [<- h3];exact h9,Ky⟩
  refine Ev.step (fun k=>by rw [bG.l0]) ?_
  exact dP Ky (Ev.bind h8 (aZ _))
 have hv:∃ R,Can WW R (vl WW a*vl WW b)/\R.length<=a.length+b.length:=by
  have hnn:0<=vl WW a*vl WW b:=Int.mul_nonneg (bL aE ha) (bL aE hb)
  obtain ⟨R,hR⟩:=IB bE hnn
  refine ⟨R,hR,?_⟩
  refine hR.fZ bE ?_
  rw [Int.pow_add]
  have h1:=fK aE ha
  have h2:=fK aE hb
  have h3:=bL aE ha
  have h4:=bL aE hb
  exact yG h1 h2 h3 h4
 obtain ⟨R,hR,hRl⟩:=hv
 refine ⟨R,hR,hRl,?_⟩
 intro d
 induction d with
 | zero =>
  intro i o h1 h2 h3 h4 h5
  have e:i=a.length:=Ky
  subst e
  obtain ⟨r,h6,h7,_⟩:=key o h3 h4 h5
  rw [bH aE hR h7]
  exact h6
 | succ d ih =>
  intro i o h1 h2 h3 h4 h5
  have h6:=Df hn ha hb i Ky R (fun o' q1 q2 q3=>ih (i+1) o' Ky Ky q1 q2 (by rw [q3])) b.length 0 o 0 Ky Ky h3 h4 Ky Ky (by rw [h5];simp [vl])
  refine Ev.step (fun k=>by rw [bG.l0]) ?_
  exact bA Ky (bA Ky (bA Ky h6))
theorem ko {a b:List Int} {n m:Int} (hn:a.length+b.length<1099511627776) (ha:Can WW a n) (hb:Can WW b m):∃ r,Ev (fun k=>bG.f k a b) r/\Can WW r (n*m)/\r.length<=a.length+b.length:=by
 by_cases ha0:a.length=0
 ·have e:a=[]:=List.eq_nil_of_length_eq_zero ha0
  subst e
  have:n=0:=by rw [<- ha.2.2];rfl
  subst this
  refine ⟨[],?_,by rw [Int.zero_mul];exact Can.zero _,Nat.zero_le _⟩
  unfold bG.f
  refine bA Kz ?_
  refine Ev.step (fun k=>by rw [bG.j0]) ?_
  exact bA rfl (aZ _)
 by_cases hb0:b.length=0
 ·have e:b=[]:=List.eq_nil_of_length_eq_zero hb0
  subst e
  have:m=0:=by rw [<- hb.2.2];rfl
  subst this
  refine ⟨[],?_,by rw [Int.mul_zero];exact Can.zero _,Nat.zero_le _⟩
  unfold bG.f
  refine dP Ky ?_
  refine Ev.step (fun k=>by rw [bG.j0]) ?_
  exact bA rfl (aZ _)
 obtain ⟨R,h1,h2,h3⟩:=AY hn ha.1 hb.1
 rw [ha.2.2,hb.2.2] at h1
 refine ⟨R,?_,h1,h2⟩
 have h4:=h3 a.length 0 (List.replicate (a.length+b.length) 0) Ky Ky Kz (Dg.rep aE _) (by rw [List.take_replicate];simp [vl,xN])
 unfold bG.f
 refine dP Ky ?_
 refine Ev.step (fun k=>by rw [bG.j0]) ?_
 have e:(a.length:Int)+(b.length:Int)=((a.length+b.length:Nat):Int):=Ky
 rw [e,cn Ky Ky,Int.toNat_natCast]
 refine dP ?_ (bA Ky (bA Ky h4))
 simp only [beq_iff_eq]
 omega
abbrev RR:Int:=10000
theorem aX:(0:Int)<RR:=by decide
theorem cM:(1:Int)<RR:=by decide
theorem dJ:RR=10000:=rfl
theorem Fu {l:List Int} (hn:l.length<4611686018427387904) (hd:Dg RR l) (d:Nat):∀ i:Nat,i=d->i<=l.length->∃ r,Ev (fun k=>aQ.l0 k l (i:Int)) r/\Can RR r (vl RR (l.take i))/\r.length<=i:=by
 induction d with
 | zero =>
  rintro i rfl h
  refine ⟨[],?_,Can.zero _,Nat.le_refl _⟩
  refine Ev.step (fun k=>by rw [aQ.l0]) ?_
  exact dP Ky (bA Ky (bA Ky (aZ _)))
 | succ d ih =>
  rintro i rfl h
  have hw:((d+1:Nat):Int)-1=(d:Int):=Ky
  by_cases hz:rd l d=0
  ·obtain ⟨r,h1,h2,h3⟩:=ih d rfl Ky
   refine ⟨r,?_,?_,Ky⟩
   ·refine Ev.step (fun k=>by rw [aQ.l0]) ?_
    rw [hw,cn (x:=(d:Int)) Ky Ky]
    exact bA Ky (bA Ky (bA Ky (bA hz h1)))
   rw [cZ RR l d Ky,hz,Int.zero_mul,Int.add_zero]
   exact h2
  refine ⟨l.take (d+1),?_,⟨hd.take _,od (fun _=>?_),rfl⟩,by rw [List.length_take];omega⟩
  ·refine Ev.step (fun k=>by rw [aQ.l0]) ?_
   rw [hw,cn (x:=(d:Int)) Ky Ky,Int.toNat_natCast]
   exact bA Ky (bA Ky (bA Ky (dP hz (bA Ky (bA Ky (aZ _))))))
  rw [List.length_take,Nat.min_eq_left Ky,hw,Jw _ _ _ Ky]
  exact hz
theorem lG {l:List Int} (hn:l.length<4611686018427387904) (hd:Dg RR l):∃ r,Ev (fun k=>aQ.f k l) r/\Can RR r (vl RR l)/\r.length<=l.length:=by
 obtain ⟨r,h1,h2⟩:=Fu hn hd l.length l.length rfl (Nat.le_refl _)
 rw [List.take_length] at h2
 exact ⟨r,Ev.congr (fun k=>by rw [aQ.f]) h1,h2⟩
theorem nA {a b:List Int} (hl:a.length=b.length) (hn:a.length<4611686018427387904) (ha:Dg RR a) (hb:Dg RR b) (d:Nat) :
 ∀ (i:Nat),i=d->i<=a.length->vl RR (a.drop i)=vl RR (b.drop i)->∃ r,Ev (fun k=>aK.l0 k a b ((i:Int)-1)) r/\(r = -1/\vl RR a<vl RR b∨r=0/\vl RR a=vl RR b∨r=1/\vl RR b<vl RR a):=by
 induction d with
 | zero =>
  rintro i rfl h1 h2
  refine ⟨0,?_,.inr (.inl ⟨rfl,by simpa using h2⟩)⟩
  refine Ev.step (fun k=>by rw [aK.l0]) ?_
  exact dP Ky (aZ _)
 | succ d ih =>
  rintro i rfl h1 h2
  have e1:(((d+1:Nat):Int)-1)=(d:Int):=Ky
  rw [e1]
  have h3:=gH RR a d Ky
  have h4:=gH RR b d Ky
  have ea:a.drop d=rd a d :: a.drop (d+1):=by rw [ki a d Ky];exact (List.drop_eq_getElem_cons Ky)
  have eb:b.drop d=rd b d :: b.drop (d+1):=by rw [ki b d Ky];exact (List.drop_eq_getElem_cons Ky)
  have ta:=fK aX (ha.take d)
  have tb:=fK aX (hb.take d)
  have ta0:=bL aX (ha.take d)
  have tb0:=bL aX (hb.take d)
  rw [List.length_take,Nat.min_eq_left Ky] at ta tb
  by_cases he:rd a d=rd b d
  ·obtain ⟨r,h5,h6⟩:=ih d rfl Ky (by rw [ea,eb,vl,vl,he,h2])
   refine ⟨r,?_,h6⟩
   refine Ev.step (fun k=>by rw [aK.l0]) ?_
   rw [cn Ky Ky]
   exact bA Ky (bA Ky (bA Ky (bA Ky (bA he h5))))
  have h7:vl RR (a.drop d)=rd a d+RR*vl RR (a.drop (d+1)):=by rw [ea,vl]
  have h8:vl RR (b.drop d)=rd b d+RR*vl RR (b.drop (d+1)):=by rw [eb,vl]
  have hp:0<RR ^ d:=Int.pow_pos aX
  by_cases hlt:rd a d<rd b d
  ·refine ⟨-1,?_,.inl ⟨rfl,?_⟩⟩
   ·refine Ev.step (fun k=>by rw [aK.l0]) ?_
    exact bA Ky (bA Ky (bA Ky (bA Ky (dP he (bA hlt (aZ _))))))
   have h9:RR ^ d*(vl RR (a.drop d)+1)<=RR ^ d*vl RR (b.drop d):=Int.mul_le_mul_of_nonneg_left (by rw [h7,h8,h2];omega) Ky
   rw [Int.mul_add] at h9
   omega
  refine ⟨1,?_,.inr (.inr ⟨rfl,?_⟩)⟩
  ·refine Ev.step (fun k=>by rw [aK.l0]) ?_
   exact bA Ky (bA Ky (bA Ky (bA Ky (dP he (dP hlt (aZ _))))))
  have h9:RR ^ d*(vl RR (b.drop d)+1)<=RR ^ d*vl RR (a.drop d):=Int.mul_le_mul_of_nonneg_left (by rw [h7,h8,h2];omega) Ky
  rw [Int.mul_add] at h9
  omega
theorem dK {a b:List Int} {n m:Int} (hn:a.length<4611686018427387904) (ha:Can RR a n) (hb:Can RR b m):Ev (fun k=>aK.f k a b) (dA n m):=by
 unfold aK.f
 by_cases hl:a.length=b.length
 ·obtain ⟨r,h1,h2⟩:=nA hl hn ha.1 hb.1 a.length a.length rfl (Nat.le_refl _) (by rw [List.drop_length,hl,List.drop_length])
  have e:r=dA n m:=by
   rw [ha.2.2,hb.2.2] at h2
   unfold dA
   rcases h2 with ⟨rfl,h⟩ | ⟨rfl,h⟩ | ⟨rfl,h⟩
   ·rw [if_pos h]
   ·rw [if_neg Ky,if_pos h]
   rw [if_neg Ky,if_neg Ky]
  rw [<- e]
  refine bA Ky ?_
  rw [cn Ky Ky]
  exact h1
 refine dP Ky ?_
 unfold dA
 by_cases h:a.length<b.length
 ·have:=Can.sD cM ha hb h
  rw [if_pos this]
  exact bA Ky (aZ _)
 have:=Can.sD cM hb ha Ky
 rw [if_neg (show ¬ n<m by omega),if_neg (show ¬ n=m by omega)]
 exact dP Ky (aZ _)
theorem fq {x:Int} (h:0<=x) (m:Int):Int.tmod x m=x % m:=Int.tmod_eq_emod_of_nonneg h
theorem fi {x:Int} (h:0<=x) (m:Int):Int.tdiv x m=x / m:=Int.tdiv_eq_ediv_of_nonneg h
theorem l7 (B:Int) (l:List Int) (x:Int):vl B (l++[x])=vl B l+x*B ^ l.length:=by
 rw [iA]
 simp only [vl]
 grind
theorem IL {vo c P n v c' R:Int} (h:vo+c*P=n) (h2:v+R*c'=c):vo+v*P+c'*(R*P)=n:=by grind
theorem Ki {vo c P va x k v c' R c0:Int} (h:vo+c*P=c0+k*va) (h2:v+R*c'=c+x*k):vo+v*P+c'*(R*P)=c0+k*(va+x*P):=by grind
theorem CJ (o0:List Int) (n:Int) (c:Nat):∀ (o:List Int) (cc:Int),cc=(c:Int)->cc<4611686018427387904->o.length+c<1099511627776->Dg RR o->vl RR o+cc*RR ^ o.length=n->∃ r,Ev (fun k=>ax.l1 k cc o) r/\Can RR r n:=by
 induction c using Nat.strongRecOn with
 | _ c ih =>
  intro o cc hcc hlt hl hd hv
  by_cases h0:c=0
  ·subst h0
   have e:cc=0:=Ky
   subst e
   rw [Int.zero_mul,Int.add_zero] at hv
   obtain ⟨r,h1,h2,_⟩:=lG (l:=o) Ky hd
   refine ⟨r,?_,by rw [<- hv];exact h2⟩
   refine Ev.step (fun k=>by rw [ax.l1]) ?_
   exact dP Ky (Ev.bind h1 (aZ _))
  obtain ⟨r,h1,h2⟩:=ih (c / 10000) Ky (o++[cc % 10000]) (cc / 10000) Ky Ky (by simp;omega) (hd.append (Dg.mk Ky (by rw [dJ];omega) (Dg.nil _)))
   (by rw [l7,List.length_append,List.length_singleton,Int.pow_succ,Int.mul_comm (RR ^ o.length) RR];exact IL hv (by rw [dJ];omega))
  refine ⟨r,?_,h2⟩
  refine Ev.step (fun k=>by rw [ax.l1]) ?_
  rw [fq (x:=cc) Ky,fi (x:=cc) Ky,cn (x:=cc / 10000) Ky Ky]
  exact bA Ky (bA Ky h1)
theorem CI {a:List Int} (hn:a.length<549755813888) (ha:Dg RR a) {k0 c0:Int} (hk:0<=k0/\k0<=65536) (d:Nat) :
 ∀ (i:Nat) (o:List Int) (c:Int),a.length-i=d->i<=a.length->o.length=i->Dg RR o->0<=c->c<=65536->vl RR o+c*RR ^ i=c0+k0*vl RR (a.take i) ->
 ∃ r,Ev (fun k=>ax.l0 k k0 c o a (a.length:Int) (i:Int)) r/\Can RR r (c0+k0*vl RR a):=by
 induction d with
 | zero =>
  intro i o c h1 h2 h3 h4 h5 h6 h7
  have e:i=a.length:=Ky
  subst e
  rw [List.take_length] at h7
  obtain ⟨r,h8,h9⟩:=CJ o (c0+k0*vl RR a) c.toNat o c Ky Ky Ky h4 (by rw [h3];exact h7)
  refine ⟨r,?_,h9⟩
  refine Ev.step (fun k=>by rw [ax.l0]) ?_
  exact dP Ky h8
 | succ d ih =>
  intro i o c h1 h2 h3 h4 h5 h6 h7
  have hx:=di ha (i:Int) Ky Ky
  rw [dJ] at hx
  have hm:0<=rd a i*k0:=Int.mul_nonneg hx.1 hk.1
  have hm2:rd a i*k0<=9999*65536:=Int.mul_le_mul Ky hk.2 hk.1 Ky
  obtain ⟨r,h8,h9⟩:=ih (i+1) (o++[(c+rd a i*k0) % 10000]) ((c+rd a i*k0) / 10000) Ky Ky (by simp;omega) (h4.append (Dg.mk Ky (by rw [dJ];omega) (Dg.nil _))) Ky Ky
   (by rw [l7,h3,cZ RR a i Ky,Int.pow_succ,Int.mul_comm (RR ^ i) RR];exact Ki h7 (by rw [dJ];omega))
  refine ⟨r,?_,h9⟩
  refine Ev.step (fun k=>by rw [ax.l0]) ?_
  rw [cn (x:=rd a i*k0) Ky Ky,cn (x:=c+rd a i*k0) Ky Ky,fq (x:=c+rd a i*k0) Ky,fi (x:=c+rd a i*k0) Ky,cn (x:=(c+rd a i*k0) / 10000) Ky Ky,fp (i:=i) Ky]
  exact bA Ky (bA Ky (bA Ky (bA Ky h8)))
theorem jf {a:List Int} {n k0 c0:Int} (hn:a.length<549755813888) (ha:Can RR a n) (hk:0<=k0/\k0<=65536) (hc:0<=c0/\c0<=65536):∃ r,Ev (fun k=>ax.f k a k0 c0) r/\Can RR r (n*k0+c0)/\r.length<=a.length+2:=by
 obtain ⟨r,h1,h2⟩:=CI hn ha.1 hk (c0:=c0) a.length 0 [] c0 Ky Ky rfl (Dg.nil _) hc.1 hc.2 (by simp [vl])
 rw [ha.2.2,Int.add_comm,Int.mul_comm] at h2
 refine ⟨r,?_,h2,?_⟩
 ·unfold ax.f
  have e:(a.length:Int)+2=((a.length+2:Nat):Int):=Ky
  rw [e,cn Ky Ky,Int.toNat_natCast]
  exact bA Ky (bA Ky h1)
 refine h2.fZ cM ?_
 have h3:=ha.lt aX
 have h4:=ha.fH aX
 have h5:n*k0<=n*65536:=Int.mul_le_mul_of_nonneg_left hk.2 h4
 have h6:RR ^ (a.length+2)=RR ^ a.length*100000000:=by rw [Int.pow_add];rfl
 rw [h6]
 omega
theorem Ag (n:Int) (c:Nat):∀ (o:List Int) (cc:Int),cc=(c:Int)->cc<4611686018427387904->o.length+c<17592186044416->Dg RR o->(c=0->Nm o)->vl RR o+cc*RR ^ o.length=n->∃ r,Ev (fun k=>aP.l0 k cc o) r/\Can RR r n:=by
 induction c using Nat.strongRecOn with
 | _ c ih =>
  intro o cc hcc hlt hl hd hnm hv
  by_cases h0:c=0
  ·subst h0
   have e:cc=0:=Ky
   subst e
   rw [Int.zero_mul,Int.add_zero] at hv
   refine ⟨o,?_,hd,hnm rfl,hv⟩
   refine Ev.step (fun k=>by rw [aP.l0]) ?_
   exact dP Ky (aZ _)
  obtain ⟨r,h1,h2⟩:=ih (c / 10000) Ky (o++[cc % 10000]) (cc / 10000) Ky Ky (by simp;omega) (hd.append (Dg.mk Ky (by rw [dJ];omega) (Dg.nil _)))
   (by
    intro hz hne
    simp only [List.getLast_append,List.getLast_singleton]
    simp
    omega)
   (by rw [l7,List.length_append,List.length_singleton,Int.pow_succ,Int.mul_comm (RR ^ o.length) RR];exact IL hv (by rw [dJ];omega))
  refine ⟨r,?_,h2⟩
  refine Ev.step (fun k=>by rw [aP.l0]) ?_
  rw [fq (x:=cc) Ky,fi (x:=cc) Ky,cn (x:=cc / 10000) Ky Ky]
  exact bA Ky (bA Ky h1)
theorem Hf {a:Int} (h0:0<=a) (h1:a<10000000000000):∃ r,Ev (fun k=>aP.f k a) r/\Can RR r a:=by
 obtain ⟨r,h2,h3⟩:=Ag a a.toNat [] a Ky Ky (by simp;omega) (Dg.nil _) (fun _=>Nm.nil) (by simp [vl])
 exact ⟨r,Ev.congr (fun k=>by rw [aP.f]) h2,h3⟩
theorem and16 {x:Int} (h0:0<=x) (h1:x<4294967296):Go.bits .and .u32 x 65535=x % 65536 :=
 bits_mask .u32 32 (by decide) (fun n h0 h1=>by rw [IntKind.wrap_u32];omega) 16 (by decide) x h0 h1
theorem AO {B:Int} {l:List Int} (hB:0<B) (hd:Dg B l) (h:B ^ (l.length-1)<=vl B l):Nm l:=by
 refine od (fun hp hz=>?_)
 have e:(l.length:Int)-1=((l.length-1:Nat):Int):=Ky
 rw [e] at hz
 have h1:=cZ B l (l.length-1) Ky
 rw [hz,show l.length-1+1=l.length by omega,List.take_length] at h1
 have h2:=fK hB (hd.take (l.length-1))
 rw [List.length_take,Nat.min_eq_left Ky] at h2
 omega
theorem IQ {vo va vb P c c' v x y R:Int} (h:vo+c*P=va+vb) (h2:v+R*c'=c+x+y):(vo+v*P)+c'*(R*P)=(va+x*P)+(vb+y*P):=by grind
theorem fm (l:List Int) (i:Nat) (h:l.length<=i):l.take i=l:=List.take_of_length_le h
theorem Hi {a b:List Int} {n m:Int} (hn:a.length+b.length<68719476736) (ha:Can RR a n) (hb:Can RR b m) (d:Nat) :
 ∀ (i:Nat) (o:List Int) (c:Int),max a.length b.length+1-i=d->i<=max a.length b.length+1->o.length=i->Dg RR o->0<=c->c<=1->(max a.length b.length<i->c=0/\RR ^ (max a.length b.length)<=n+m) ->
 vl RR o+c*RR ^ i=vl RR (a.take i)+vl RR (b.take i)->∃ r,Ev (fun k=>aA.l0 k a b o c (i:Int)) r/\Can RR r (n+m)/\r.length<=max a.length b.length+1:=by
 induction d with
 | zero =>
  intro i o c h1 h2 h3 h4 h5 h6 h7 h8
  obtain ⟨hc,hge⟩:=h7 Ky
  subst hc
  rw [fm a i Ky,fm b i Ky,ha.2.2,hb.2.2,Int.zero_mul,Int.add_zero] at h8
  refine ⟨o,?_,⟨h4,AO aX h4 ?_,h8⟩,Ky⟩
  ·refine Ev.step (fun k=>by rw [aA.l0]) ?_
   refine dP Ky (dP Ky ?_)
   refine Ev.step (fun k=>by rw [aA.j1]) ?_
   exact dP Kz (aZ _)
  rw [h8,h3,show i-1=max a.length b.length by omega]
  exact hge
 | succ d ih =>
  intro i o c h1 h2 h3 h4 h5 h6 h7 h8
  have step:∀ (x y:Int),0<=x/\x<10000->0<=y/\y<10000->vl RR (a.take (i+1))=vl RR (a.take i)+x*RR ^ i->vl RR (b.take (i+1))=vl RR (b.take i)+y*RR ^ i->(max a.length b.length<i+1->(c+x+y) / 10000=0/\RR ^ (max a.length b.length)<=n+m) ->
   ∃ r,Ev (fun k=>aA.l0 k a b (o++[(c+x+y) % 10000]) ((c+x+y) / 10000) ((i+1:Nat):Int)) r/\Can RR r (n+m)/\r.length<=max a.length b.length+1:=by
   intro x y hx hy ta tb hg
   refine ih (i+1) _ _ Ky Ky (by simp;omega) (h4.append (Dg.mk Ky (by rw [dJ];omega) (Dg.nil _))) Ky Ky hg ?_
   rw [l7,h3,ta,tb,Int.pow_succ,Int.mul_comm (RR ^ i) RR]
   exact IQ h8 (by rw [dJ];omega)
  by_cases hia:i<a.length
  ·have hx:=di ha.1 (i:Int) Ky Ky
   rw [dJ] at hx
   by_cases hib:i<b.length
   ·have hy:=di hb.1 (i:Int) Ky Ky
    rw [dJ] at hy
    obtain ⟨r,q1,q2⟩:=step _ _ hx hy (cZ RR a i hia) (cZ RR b i hib) (fun h=>Ky)
    refine ⟨r,?_,q2⟩
    refine Ev.step (fun k=>by rw [aA.l0]) ?_
    refine bA Ky ?_
    refine Ev.step (fun k=>by rw [aA.j1]) ?_
    rw [cn (x:=c+rd a i) Ky Ky,cn (x:=c+rd a i+rd b i) Ky Ky,fq (x:=c+rd a i+rd b i) Ky,fi (x:=c+rd a i+rd b i) Ky,cn (x:=(c+rd a i+rd b i) / 10000) Ky Ky,fp (i:=i) Ky]
    exact bA rfl (bA Ky (bA Ky (bA Ky (bA Ky q1))))
   obtain ⟨r,q1,q2⟩:=step _ 0 hx Ky (cZ RR a i hia) (by rw [fm b i Ky,fm b (i+1) Ky];omega) (fun h=>Ky)
   rw [Int.add_zero] at q1
   refine ⟨r,?_,q2⟩
   refine Ev.step (fun k=>by rw [aA.l0]) ?_
   refine bA Ky ?_
   refine Ev.step (fun k=>by rw [aA.j1]) ?_
   rw [cn (x:=c+rd a i) Ky Ky,fq (x:=c+rd a i) Ky,fi (x:=c+rd a i) Ky,cn (x:=(c+rd a i) / 10000) Ky Ky,fp (i:=i) Ky]
   exact bA rfl (bA Ky (bA Ky (dP Ky (bA Ky q1))))
  by_cases hib:i<b.length
  ·have hy:=di hb.1 (i:Int) Ky Ky
   rw [dJ] at hy
   obtain ⟨r,q1,q2⟩:=step 0 _ Ky hy (by rw [fm a i Ky,fm a (i+1) Ky];omega) (cZ RR b i hib) (fun h=>Ky)
   rw [Int.add_zero] at q1
   refine ⟨r,?_,q2⟩
   refine Ev.step (fun k=>by rw [aA.l0]) ?_
   refine dP Ky (bA Ky ?_)
   refine Ev.step (fun k=>by rw [aA.j1]) ?_
   rw [cn (x:=c+rd b i) Ky Ky,fq (x:=c+rd b i) Ky,fi (x:=c+rd b i) Ky,cn (x:=(c+rd b i) / 10000) Ky Ky,fp (i:=i) Ky]
   exact bA rfl (dP Ky (bA Ky (bA Ky (bA Ky q1))))
  rw [fm a i Ky,fm b i Ky,ha.2.2,hb.2.2] at h8
  by_cases hc:c=0
  ·subst hc
   rw [Int.zero_mul,Int.add_zero] at h8
   refine ⟨o,?_,⟨h4,?_,h8⟩,Ky⟩
   ·refine Ev.step (fun k=>by rw [aA.l0]) ?_
    refine dP Ky (dP Ky ?_)
    refine Ev.step (fun k=>by rw [aA.j1]) ?_
    exact dP Kz (aZ _)
   by_cases hi0:i=0
   ·have:o=[]:=List.eq_nil_of_length_eq_zero Ky
    rw [this]
    exact Nm.nil
   refine AO aX h4 ?_
   rw [h8,h3]
   have hna:=ha.fH aX
   have hnb:=hb.fH aX
   by_cases hge:b.length<=a.length
   ·have:=ha.ge aX Ky
    have h9:=eV (B:=RR) (by have:=cM;omega) (show i-1<=a.length-1 by omega)
    omega
   have:=hb.ge aX Ky
   have h9:=eV (B:=RR) (by have:=cM;omega) (show i-1<=b.length-1 by omega)
   omega
  have hc1:c=1:=Ky
  subst hc1
  have him:i<=max a.length b.length:=by
   rcases Nat.lt_or_ge (max a.length b.length) i with h | h
   ·have:=(h7 h).1
    omega
   exact h
  have hvo:=bL aX h4
  obtain ⟨r,q1,q2⟩:=step 0 0 Ky Ky (by rw [fm a i Ky,fm a (i+1) Ky];omega) (by rw [fm b i Ky,fm b (i+1) Ky];omega)
   (fun h=>⟨Ky,by rw [show max a.length b.length=i by omega];omega⟩)
  refine ⟨r,?_,q2⟩
  refine Ev.step (fun k=>by rw [aA.l0]) ?_
  refine dP Ky (dP Ky ?_)
  refine Ev.step (fun k=>by rw [aA.j1]) ?_
  rw [fp (i:=i) Ky,show Int.tmod 1 10000=(1+0+0) % 10000 by decide,show wrap64 (Int.tdiv 1 10000)=(1+0+0) / 10000 by decide +kernel]
  exact bA Kz (dP Ky (dP Ky (bA Ky q1)))
theorem Hh {a b:List Int} {n m:Int} (hn:a.length+b.length<68719476736) (ha:Can RR a n) (hb:Can RR b m):∃ r,Ev (fun k=>aA.f k a b) r/\Can RR r (n+m)/\r.length<=max a.length b.length+1:=by
 obtain ⟨r,h1,h2⟩:=Hi hn ha hb (max a.length b.length+1) 0 [] 0 Ky Ky rfl (Dg.nil _) Ky Ky (fun h=>Ky) (by simp [vl])
 exact ⟨r,Ev.congr (fun k=>by rw [aA.f];rfl) h1,h2⟩
theorem gG (l:List Int) (i:Nat) (v:Int):(l.set i v).drop (i+1)=l.drop (i+1):=by rw [List.drop_set_of_lt Ky]
theorem kh (a o:List Int) (i:Nat) (h:o.drop i=a.drop i) (hi:i<a.length) (hl:o.length=a.length):rd o i=rd a i:=by
 rw [ki o i Ky,ki a i hi]
 have h1:(o.drop i)[0]?=(a.drop i)[0]?:=by rw [h]
 rw [List.getElem?_drop,List.getElem?_drop,Nat.add_zero,List.getElem?_eq_getElem Ky,List.getElem?_eq_getElem hi] at h1
 exact Option.some.inj h1
theorem drop_tail (a o:List Int) (i:Nat) (h:o.drop i=a.drop i):o.drop (i+1)=a.drop (i+1):=by
 rw [<- List.drop_drop,<- List.drop_drop,h]
theorem Hb {a b:List Int} (hba:b.length<=a.length) (hle:vl RR b<=vl RR a) (hn:a.length<68719476736) (ha:Dg RR a) (hb:Dg RR b) (d:Nat) :
 ∀ (i:Nat) (o:List Int) (c:Int),a.length-i=d->i<=a.length->o.length=a.length->o.drop i=a.drop i->Dg RR (o.take i)->0<=c->c<=1->vl RR (o.take i)-c*RR ^ i=vl RR (a.take i)-vl RR (b.take i) ->
 ∃ r,Ev (fun k=>aM.l0 k b o c (a.length:Int) (i:Int)) r/\Can RR r (vl RR a-vl RR b)/\r.length<=a.length:=by
 induction d with
 | zero =>
  intro i o c h1 h2 h3 hdr h4 h5 h6 h7
  have e:i=a.length:=Ky
  subst e
  rw [List.take_length,List.take_of_length_le hba,<- h3,List.take_length] at h7
  rw [<- h3,List.take_length] at h4
  have hlt:=fK aX h4
  have hc:c=0:=by
   rcases Int.lt_or_eq_of_le h6 with h | h
   ·omega
   subst h
   rw [Int.one_mul] at h7
   omega
  subst hc
  rw [Int.zero_mul,Int.sub_zero] at h7
  obtain ⟨r,h8,h9,h10⟩:=lG (l:=o) Ky h4
  refine ⟨r,?_,by rw [<- h7];exact h9,Ky⟩
  refine Ev.step (fun k=>by rw [aM.l0]) ?_
  refine dP Ky ?_
  exact Ev.bind h8 (aZ _)
 | succ d ih =>
  intro i o c h1 h2 h3 hdr h4 h5 h6 h7
  have hi:i<a.length:=Ky
  have hx:=di ha (i:Int) Ky Ky
  rw [dJ] at hx
  have hro:=kh a o i hdr hi h3
  have ti:=cZ RR a i hi
  have ep:RR ^ (i+1)=RR*RR ^ i:=by rw [Int.pow_succ,Int.mul_comm]
  have hdt:=drop_tail a o i hdr
  by_cases hib:i<b.length
  ·have hy:=di hb (i:Int) Ky Ky
   rw [dJ] at hy
   have tb:=cZ RR b i hib
   by_cases hneg:rd a i-c-rd b i<0
   ·obtain ⟨r,h8,h9⟩:=ih (i+1) (o.set i (rd a i-c-rd b i+10000)) 1 Ky Ky (by simpa using h3) (by rw [gG,hdt]) (Dg.take_set Ky h4 Ky (by rw [dJ];omega)) Ky Ky
     (by rw [gx _ _ _ _ Ky,ti,tb,ep];exact zf h7 (by rw [dJ];omega))
    refine ⟨r,?_,h9⟩
    refine Ev.step (fun k=>by rw [aM.l0]) ?_
    rw [hro,cn (x:=rd a i-c) Ky Ky,cn (x:=rd a i-c-rd b i) Ky Ky,cn (x:=rd a i-c-rd b i+10000) Ky Ky,fp (i:=i) Ky]
    exact bA Ky (bA Ky (bA Ky (bA Ky (bA hneg h8))))
   obtain ⟨r,h8,h9⟩:=ih (i+1) (o.set i (rd a i-c-rd b i)) 0 Ky Ky (by simpa using h3) (by rw [gG,hdt]) (Dg.take_set Ky h4 Ky (by rw [dJ];omega)) Ky Ky
    (by rw [gx _ _ _ _ Ky,ti,tb,ep];exact zf h7 (by rw [dJ];omega))
   refine ⟨r,?_,h9⟩
   refine Ev.step (fun k=>by rw [aM.l0]) ?_
   rw [hro,cn (x:=rd a i-c) Ky Ky,cn (x:=rd a i-c-rd b i) Ky Ky,fp (i:=i) Ky]
   exact bA Ky (bA Ky (bA Ky (bA Ky (dP hneg h8))))
  have tb:vl RR (b.take (i+1))=vl RR (b.take i):=by rw [List.take_of_length_le Ky,List.take_of_length_le Ky]
  by_cases hneg:rd a i-c<0
  ·obtain ⟨r,h8,h9⟩:=ih (i+1) (o.set i (rd a i-c+10000)) 1 Ky Ky (by simpa using h3) (by rw [gG,hdt]) (Dg.take_set Ky h4 Ky (by rw [dJ];omega)) Ky Ky
    (by rw [gx _ _ _ _ Ky,ti,tb,ep];exact vX h7 (by rw [dJ];omega))
   refine ⟨r,?_,h9⟩
   refine Ev.step (fun k=>by rw [aM.l0]) ?_
   rw [hro,cn (x:=rd a i-c) Ky Ky,cn (x:=rd a i-c+10000) Ky Ky,fp (i:=i) Ky]
   exact bA Ky (bA Ky (bA Ky (dP Ky (bA hneg h8))))
  obtain ⟨r,h8,h9⟩:=ih (i+1) (o.set i (rd a i-c)) 0 Ky Ky (by simpa using h3) (by rw [gG,hdt]) (Dg.take_set Ky h4 Ky (by rw [dJ];omega)) Ky Ky
   (by rw [gx _ _ _ _ Ky,ti,tb,ep];exact vX h7 (by rw [dJ];omega))
  refine ⟨r,?_,h9⟩
  refine Ev.step (fun k=>by rw [aM.l0]) ?_
  rw [hro,cn (x:=rd a i-c) Ky Ky,fp (i:=i) Ky]
  exact bA Ky (bA Ky (bA Ky (dP Ky (dP hneg h8))))
theorem jH {a b:List Int} {n m:Int} (ha:Can RR a n) (hb:Can RR b m) (h:m<=n):b.length<=a.length:=by
 rcases Nat.lt_or_ge a.length b.length with hl | hl
 ·have:=Can.sD cM ha hb hl
  omega
 exact hl
theorem CK {l:List Int} (h:l.length<17592186044416):cW.f l=some l:=by
 unfold cW.f
 simp [h]
theorem Ae {a b:List Int} {n m:Int} (hn:a.length<68719476736) (ha:Can RR a n) (hb:Can RR b m) (hle:m<=n):∃ r,Ev (fun k=>aM.f k a b) r/\Can RR r (n-m)/\r.length<=a.length:=by
 have hba:=jH ha hb hle
 rw [<- ha.2.2,<- hb.2.2] at *
 obtain ⟨r,h1,h2⟩:=Hb hba hle hn ha.1 hb.1 a.length 0 a 0 Ky Ky rfl rfl (by simp;exact Dg.nil _) Ky Ky (by simp [vl])
 refine ⟨r,?_,h2⟩
 unfold aM.f
 exact kB (CK Ky) h1
theorem um (B:Int) (l:List Int) (p:Nat) (v:Int) (h:p<l.length):vl B (l.set p v)=vl B l+(v-rd l (p:Int))*B ^ p:=by
 have h1:=uk B l p l.length v h (Nat.le_refl _)
 rwa [List.take_of_length_le Kz,List.take_length] at h1
theorem Gd {T c P V pQ v c' W:Int} (h:T+c*P=V) (h2:v+W*c'=c+pQ):(T+(v-pQ)*P)+c'*(W*P)=V:=by grind
theorem Jz {a b:List Int} {V:Int} (hn:a.length+b.length<68719476736) (hV:V<RR ^ (a.length+b.length)) (s:Int) (R:List Int)
 (hout:∀ o:List Int,o.length=a.length+b.length+1->Dg RR o->vl RR o=V->Ev (fun k=>au.l0 k b o a (a.length:Int) (wrap64 (s+1))) R) (d:Nat) :
 ∀ (p:Nat) (o:List Int) (c:Int),a.length+b.length+1-p=d->p<=a.length+b.length+1->o.length=a.length+b.length+1->Dg RR o->0<=c->c<10000->vl RR o+c*RR ^ p=V ->
 Ev (fun k=>au.l2 k b o c (p:Int) a (a.length:Int) s) R:=by
 induction d with
 | zero =>
  intro p o c h1 h2 h3 h4 h5 h6 h7
  have hvo:=bL aX h4
  have hc:c=0:=by
   rcases Int.lt_or_eq_of_le h5 with h | h
   ·have h8:=eV (B:=RR) (by have:=cM;omega) (show a.length+b.length<=p by omega)
    have h9:1*RR ^ p<=c*RR ^ p:=Int.mul_le_mul_of_nonneg_right Ky (Int.le_of_lt (Int.pow_pos aX))
    omega
   omega
  subst hc
  rw [Int.zero_mul,Int.add_zero] at h7
  refine Ev.step (fun k=>by rw [au.l2]) ?_
  exact dP Ky (hout o h3 h4 h7)
 | succ d ih =>
  intro p o c h1 h2 h3 h4 h5 h6 h7
  by_cases hc:c=0
  ·subst hc
   rw [Int.zero_mul,Int.add_zero] at h7
   refine Ev.step (fun k=>by rw [au.l2]) ?_
   exact dP Ky (hout o h3 h4 h7)
  have ho:=di h4 (p:Int) Ky Ky
  rw [dJ] at ho
  have h8:=ih (p+1) (o.set p ((c+rd o p) % 10000)) ((c+rd o p) / 10000) Ky Ky (by simpa using h3) (h4.set _ Ky (by rw [dJ];omega)) Ky Ky
   (by rw [um _ _ _ _ Ky,Int.pow_succ,Int.mul_comm (RR ^ p) RR];exact Gd h7 (by rw [dJ];omega))
  refine Ev.step (fun k=>by rw [au.l2]) ?_
  rw [cn (x:=c+rd o p) Ky Ky,fq (x:=c+rd o p) Ky,fi (x:=c+rd o p) Ky,cn (x:=(c+rd o p) / 10000) Ky Ky,fp (i:=p) Ky,Int.toNat_natCast]
  exact bA Ky (bA Ky (bA Ky h8))
theorem JL {x y:Int} (hx:0<=x/\x<10000) (hy:0<=y/\y<10000):0<=x*y/\x*y<=99980001:=by
 have h1:0<=x*y:=Int.mul_nonneg hx.1 hy.1
 have h2:x*y<=9999*9999:=Int.mul_le_mul Ky Ky hy.1 Ky
 omega
theorem IM {T va vb x y pQ P c c' v W xb Pi Pj:Int} (h:T+c*P=va*vb+x*Pi*xb) (h2:v+W*c'=c+(pQ+x*y)) (hP:P=Pi*Pj):(T+(v-pQ)*P)+c'*(W*P)=va*vb+x*Pi*(xb+y*Pj):=by grind
theorem He {a b:List Int} (hn:a.length+b.length<68719476736) (ha:Dg RR a) (hb:Dg RR b) (i:Nat) (hi:i<a.length) (R:List Int)
 (hout:∀ o:List Int,o.length=a.length+b.length+1->Dg RR o->vl RR o=vl RR (a.take (i+1))*vl RR b->Ev (fun k=>au.l0 k b o a (a.length:Int) ((i+1:Nat):Int)) R) (d:Nat) :
 ∀ (j:Nat) (o:List Int) (c:Int),b.length-j=d->j<=b.length->o.length=a.length+b.length+1->Dg RR o->0<=c->c<10000 ->
 vl RR o+c*RR ^ (i+j)=vl RR (a.take i)*vl RR b+rd a i*RR ^ i*vl RR (b.take j) ->
 Ev (fun k=>au.l1 k b o (i:Int) (rd a i) c a (a.length:Int) (i:Int) b (b.length:Int) (j:Int)) R:=by
 have hx:=di ha (i:Int) Ky Ky
 rw [dJ] at hx
 induction d with
 | zero =>
  intro j o c h1 h2 h3 h4 h5 h6 h7
  have e:j=b.length:=Ky
  subst e
  rw [List.take_length] at h7
  have h8:=BQ h7
  rw [<- cZ RR a i hi] at h8
  have hlt:vl RR (a.take (i+1))*vl RR b<RR ^ (a.length+b.length):=by
   rw [Int.pow_add]
   have q1:=fK aX (ha.take (i+1))
   have q2:=eV (B:=RR) (by have:=cM;omega) (show (a.take (i+1)).length<=a.length by rw [List.length_take];omega)
   exact yG Ky (fK aX hb) (bL aX (ha.take _)) (bL aX hb)
  have h9:=Jz (a:=a) (b:=b) (V:=vl RR (a.take (i+1))*vl RR b) hn hlt (i:Int) R (fun o' q1 q2 q3=>by rw [fp (i:=i) Ky];exact hout o' q1 q2 q3) (a.length+b.length+1-(i+b.length)) (i+b.length) o c rfl Ky h3 h4 h5 h6 h8
  have ei:((i:Int)+(b.length:Int))=((i+b.length:Nat):Int):=Ky
  refine Ev.step (fun k=>by rw [au.l1]) ?_
  rw [ei,cn (x:=((i+b.length:Nat):Int)) Ky Ky]
  exact dP Ky h9
 | succ d ih =>
  intro j o c h1 h2 h3 h4 h5 h6 h7
  have hy:=di hb (j:Int) Ky Ky
  have ho:=di h4 ((i+j:Nat):Int) Ky Ky
  rw [dJ] at hy ho
  have hm:=JL hx hy
  have h8:=ih (j+1) (o.set (i+j) ((c+(rd o ((i+j:Nat):Int)+rd a i*rd b j)) % 10000)) ((c+(rd o ((i+j:Nat):Int)+rd a i*rd b j)) / 10000) Ky Ky (by simpa using h3) (h4.set _ Ky (by rw [dJ];omega)) Ky Ky
   (by
    rw [um _ _ _ _ Ky,cZ RR b j Ky,show i+(j+1)=i+j+1 by omega,Int.pow_succ,Int.mul_comm (RR ^ (i+j)) RR]
    exact IM h7 (by rw [dJ];omega) (Int.pow_add _ _ _))
  have ei:((i:Int)+(j:Int))=((i+j:Nat):Int):=Ky
  refine Ev.step (fun k=>by rw [au.l1]) ?_
  rw [ei,cn (x:=((i+j:Nat):Int)) Ky Ky,cn (x:=rd a i*rd b j) Ky Ky,cn (x:=rd o ((i+j:Nat):Int)+rd a i*rd b j) Ky Ky,cn (x:=c+(rd o ((i+j:Nat):Int)+rd a i*rd b j)) Ky Ky,
   fq (x:=c+(rd o ((i+j:Nat):Int)+rd a i*rd b j)) Ky,fi (x:=c+(rd o ((i+j:Nat):Int)+rd a i*rd b j)) Ky,cn (x:=(c+(rd o ((i+j:Nat):Int)+rd a i*rd b j)) / 10000) Ky Ky,fp (i:=j) Ky,Int.toNat_natCast]
  exact bA Ky (bA Ky (bA Ky (bA Ky (bA Ky h8))))
theorem Fv {a b:List Int} (hn:a.length+b.length<68719476736) (ha:Dg RR a) (hb:Dg RR b):∃ R,Can RR R (vl RR a*vl RR b)/\R.length<=a.length+b.length/\∀ (d i:Nat) (o:List Int),a.length-i=d->i<=a.length->o.length=a.length+b.length+1->Dg RR o->vl RR o=vl RR (a.take i)*vl RR b ->
 Ev (fun k=>au.l0 k b o a (a.length:Int) (i:Int)) R:=by
 have hnn:0<=vl RR a*vl RR b:=Int.mul_nonneg (bL aX ha) (bL aX hb)
 obtain ⟨R,hR⟩:=IB cM hnn
 have hRl:R.length<=a.length+b.length:=by
  refine hR.fZ cM ?_
  rw [Int.pow_add]
  exact yG (fK aX ha) (fK aX hb) (bL aX ha) (bL aX hb)
 refine ⟨R,hR,hRl,?_⟩
 intro d
 induction d with
 | zero =>
  intro i o h1 h2 h3 h4 h5
  have e:i=a.length:=Ky
  subst e
  rw [List.take_length] at h5
  obtain ⟨r,h8,h9,h10⟩:=lG (l:=o) Ky h4
  rw [h5] at h9
  rw [bH aX hR h9]
  refine Ev.step (fun k=>by rw [au.l0]) ?_
  exact dP Ky (Ev.bind h8 (aZ _))
 | succ d ih =>
  intro i o h1 h2 h3 h4 h5
  have h6:=He hn ha hb i Ky R (fun o' q1 q2 q3=>ih (i+1) o' Ky Ky q1 q2 q3) b.length 0 o 0 Ky Ky h3 h4 Ky Ky (by rw [h5];simp [vl])
  refine Ev.step (fun k=>by rw [au.l0]) ?_
  exact bA Ky (bA Ky (bA Ky h6))
theorem Af {a b:List Int} {n m:Int} (hn:a.length+b.length<68719476736) (ha:Can RR a n) (hb:Can RR b m):∃ r,Ev (fun k=>au.f k a b) r/\Can RR r (n*m)/\r.length<=a.length+b.length:=by
 obtain ⟨R,h1,h2,h3⟩:=Fv hn ha.1 hb.1
 rw [ha.2.2,hb.2.2] at h1
 refine ⟨R,?_,h1,h2⟩
 have h4:=h3 a.length 0 (List.replicate (a.length+b.length+1) 0) Ky Ky Kz (Dg.rep aX _) (by simp [vl,xN])
 unfold au.f
 have e:(a.length:Int)+(b.length:Int)=((a.length+b.length:Nat):Int):=Ky
 rw [e,cn (x:=((a.length+b.length:Nat):Int)) Ky Ky,fp (i:=a.length+b.length) Ky,Int.toNat_natCast]
 exact bA Ky (bA Ky h4)
theorem mH (l:List Int) (x:Int) (h:l++[x]≠[]):(l++[x]).getLast h=x:=by simp
theorem fe (l:List Int) (i:Nat) (v:Int) (h:i<l.length):(l.set i v).drop i=v :: l.drop (i+1):=by
 rw [List.drop_eq_getElem_cons (by simpa using h),List.getElem_set_self,gG]
theorem fj (l:List Int) (i:Nat) (h:i<l.length):l.drop i=rd l i :: l.drop (i+1):=by
 rw [ki l i h]
 exact List.drop_eq_getElem_cons h
theorem Gc {t r va q rr d R K:Int} (h:t*K+r=va) (h2:q*K+rr=r*R+d):(q+R*t)*K+rr=d+R*va:=by grind
theorem CH {a:List Int} (hn:a.length<68719476736) (ha:Dg RR a) {K:Int} (hK:1<=K/\K<=65536) (d:Nat):∀ (i:Nat) (o:List Int) (r:Int),i=d->i<=a.length->o.length=a.length->Dg RR (o.drop i)->0<=r->r<K->vl RR (o.drop i)*K+r=vl RR (a.drop i) ->
 ∃ q z,Ev (fun k=>bj.l0 k a K o r ((i:Int)-1)) (q,z)/\(∃ m,Can RR q m/\m*K+z=vl RR a)/\0<=z/\z<K/\q.length<=a.length:=by
 induction d with
 | zero =>
  rintro i o r rfl h1 h2 h3 h4 h5 h6
  rw [List.drop_zero] at h3 h6
  rw [List.drop_zero] at h6
  obtain ⟨q,h7,h8,h9⟩:=lG (l:=o) Ky h3
  refine ⟨q,r,?_,⟨_,h8,h6⟩,h4,h5,Ky⟩
  refine Ev.step (fun k=>by rw [bj.l0]) ?_
  exact dP Ky (Ev.bind h7 (aZ _))
 | succ d ih =>
  rintro i o r rfl h1 h2 h3 h4 h5 h6
  have e1:(((d+1:Nat):Int)-1)=(d:Int):=Ky
  have hx:=di ha (d:Int) Ky Ky
  rw [dJ] at hx
  have hv0:0<=r*10000+rd a d:=Ky
  have hq0:0<=(r*10000+rd a d) / K:=Int.ediv_nonneg hv0 Ky
  have hq1:(r*10000+rd a d) / K<10000:=by
   refine Int.ediv_lt_of_lt_mul Ky ?_
   have:(r+1)*10000<=K*10000:=Int.mul_le_mul_of_nonneg_right Ky Ky
   omega
  have hm0:=Int.emod_nonneg (r*10000+rd a d) (show K≠0 by omega)
  have hm1:=Int.emod_lt_of_pos (r*10000+rd a d) (show 0<K by omega)
  have hdv:(r*10000+rd a d) / K*K+(r*10000+rd a d) % K=r*RR+rd a d:=by rw [dJ];exact Int.ediv_mul_add_emod _ _
  obtain ⟨q,z,h7,h8⟩:=ih d (o.set d ((r*10000+rd a d) / K)) ((r*10000+rd a d) % K) rfl Ky (by simpa using h2)
   (by rw [fe _ _ _ Ky];exact Dg.mk hq0 (by rw [dJ];exact hq1) h3) hm0 hm1
   (by rw [fe _ _ _ Ky,fj a d Ky,vl,vl];exact Gc h6 hdv)
  refine ⟨q,z,?_,h8⟩
  refine Ev.step (fun k=>by rw [bj.l0]) ?_
  rw [e1,cn (x:=r*10000) Ky Ky,cn (x:=r*10000+rd a d) Ky Ky,fi hv0,fq hv0,cn (x:=(r*10000+rd a d) / K) Ky Ky,cn (x:=(d:Int)-1) Ky Ky,Int.toNat_natCast]
  exact bA Ky (bA Ky (bA Ky (dP Ky (bA Ky h7))))
theorem uJ {a:List Int} {n K:Int} (hn:a.length<68719476736) (ha:Can RR a n) (hK:1<=K/\K<=65536):∃ q,Ev (fun k=>bj.f k a K) (q,n % K)/\Can RR q (n / K)/\q.length<=a.length:=by
 obtain ⟨q,z,h1,⟨m,h2,h3⟩,h4,h5,h6⟩:=CH hn ha.1 hK a.length a.length (List.replicate a.length 0) 0 rfl (Nat.le_refl _) Kz (by rw [List.drop_of_length_le Kz];exact Dg.nil _) Ky Ky (by rw [List.drop_of_length_le Kz,List.drop_of_length_le Kz];simp [vl])
 rw [ha.2.2] at h3
 have e1:n % K=z:=by rw [<- h3,Int.add_comm,Int.add_mul_emod_self_right,Int.emod_eq_of_lt h4 h5]
 have e2:n / K=m:=by
  have h7:=Int.ediv_mul_add_emod n K
  rw [e1] at h7
  exact Int.eq_of_mul_eq_mul_right (a:=K) Ky Ky
 rw [e1,e2]
 refine ⟨q,?_,h2,h6⟩
 unfold bj.f
 rw [Int.toNat_natCast,cn Ky Ky]
 exact bA Ky (bA Ky h1)
abbrev HH:Int:=65536
theorem BT:HH=65536:=rfl
theorem vl2 (h:List Int) (i:Nat) (hi:i+1<h.length):vl HH (h.drop i)=rd h i+65536*rd h ((i+1:Nat):Int)+WW*vl HH (h.drop (i+2)):=by
 rw [fj h i Ky,vl,fj h (i+1) hi,vl,cE,BT,show i+1+1=i+2 from rfl]
 omega
theorem vl1 (h:List Int) (i:Nat) (hi:i+1=h.length):vl HH (h.drop i)=rd h i:=by
 rw [fj h i Ky,vl,List.drop_of_length_le Ky]
 simp [vl]
theorem alg_w {vo P x w V W T:Int} (h:vo+P*T=V) (h2:T=w+W*x):(vo+w*P)+(W*P)*x=V:=by grind
theorem Ad {h:List Int} (hn:h.length<68719476736) (hd:Dg HH h) (hnm:Nm h) (n:Int) (d:Nat):∀ (i:Nat) (o:List Int),h.length-i=d->i=2*o.length->Dg WW o->(h.length<=i->Nm o)->vl WW o+WW ^ o.length*vl HH (h.drop i)=n ->
 ∃ r,Ev (fun k=>aD.l1 k h o (i:Int)) r/\Can WW r n:=by
 induction d using Nat.strongRecOn with
 | _ d ih =>
  intro i o h1 h2 h3 h4 h5
  by_cases hi:i<h.length
  ·have hx:=di hd (i:Int) Ky Ky
   rw [BT] at hx
   have ei2:(i:Int)+2=((i+2:Nat):Int):=Ky
   by_cases hi1:i+1<h.length
   ·have hy:=di hd ((i+1:Nat):Int) Ky Ky
    rw [BT] at hy
    have hl:i+2=h.length->rd h ((i+1:Nat):Int)≠0:=by
     intro he
     have h6:=hnm.rd Ky
     rw [show (h.length:Int)-1=((i+1:Nat):Int) by omega] at h6
     exact h6
    obtain ⟨r,h7,h8⟩:=ih (h.length-(i+2)) Ky (i+2) (o++[rd h i+65536*rd h ((i+1:Nat):Int)]) rfl (by simp;omega) (h3.append (Dg.mk Ky (by rw [cE];omega) (Dg.nil _)))
     (by
      intro hle hne
      rw [mH]
      have:=hl Ky
      omega)
     (by rw [l7,List.length_append,List.length_singleton,Int.pow_succ,Int.mul_comm (WW ^ o.length) WW];exact alg_w h5 (vl2 h i hi1))
    refine ⟨r,?_,h8⟩
    refine Ev.step (fun k=>by rw [aD.l1]) ?_
    have ew:(rd h i % 4294967296+rd h ((i+1:Nat):Int) % 4294967296*65536 % 4294967296) % 4294967296=rd h i+65536*rd h ((i+1:Nat):Int):=Ky
    rw [fp (i:=i) Ky,ew,ei2,cn (x:=((i+2:Nat):Int)) Ky Ky]
    exact bA Ky (bA Ky (bA Ky (bA Ky (bA Ky h7))))
   have hl:rd h (i:Int)≠0:=by
    have h6:=hnm.rd Ky
    rw [show (h.length:Int)-1=(i:Int) by omega] at h6
    exact h6
   obtain ⟨r,h7,h8⟩:=ih (h.length-(i+2)) Ky (i+2) (o++[rd h i]) rfl (by simp;omega) (h3.append (Dg.mk Ky (by rw [cE];omega) (Dg.nil _)))
    (by
     intro hle hne
     rw [mH]
     exact hl)
    (by
     rw [l7,List.length_append,List.length_singleton,Int.pow_succ,Int.mul_comm (WW ^ o.length) WW]
     refine alg_w (T:=vl HH (h.drop i)) h5 ?_
     rw [vl1 h i Ky,List.drop_of_length_le Ky]
     simp [vl])
   refine ⟨r,?_,h8⟩
   refine Ev.step (fun k=>by rw [aD.l1]) ?_
   have ew:rd h i % 4294967296=rd h i:=Ky
   rw [fp (i:=i) Ky,ew,ei2,cn (x:=((i+2:Nat):Int)) Ky Ky]
   exact bA Ky (bA Ky (dP Ky (bA Ky h7)))
  rw [List.drop_of_length_le Ky] at h5
  refine ⟨o,?_,h3,h4 Ky,by simpa [vl] using h5⟩
  refine Ev.step (fun k=>by rw [aD.l1]) ?_
  exact dP Ky (aZ _)
theorem alg_h {vh P m q r K n:Int} (h:vh+m*P=n) (h2:q*K+r=m):(vh+r*P)+q*(K*P)=n:=by grind
theorem CG (n:Int) (c:Nat):∀ (a h:List Int) (m:Int),m.toNat=c->Can RR a m->a.length+h.length<17179869184->h.length+4*a.length<17179869184->Dg HH h->(m=0->Nm h)->vl HH h+m*HH ^ h.length=n->(∀ a':List Int,a'.length<=a.length->True) ->
 ∃ r,Ev (fun k=>aD.l0 k a h) r/\Can WW r n:=by
 induction c using Nat.strongRecOn with
 | _ c ih =>
  intro a h m hm ha hl hl2 hd hnm hv _
  have hm0:=ha.fH aX
  by_cases hz:m=0
  ·have e:a=[]:=(ha.yF aX).2 hz
   subst hz
   subst e
   rw [Int.zero_mul,Int.add_zero] at hv
   obtain ⟨r,h1,h2⟩:=Ad Ky hd (hnm rfl) n h.length 0 [] Ky rfl (Dg.nil _) (fun _=>Nm.nil) (by simpa [vl] using hv)
   refine ⟨r,?_,h2⟩
   refine Ev.step (fun k=>by rw [aD.l0]) ?_
   exact dP Kz h1
  have hal:a.length≠0:=fun h0=>hz ((ha.iV aX).1 h0)
  obtain ⟨q,h1,h2,h3⟩:=uJ (K:=65536) Ky ha Ky
  have hq:q.length+1<=a.length:=by
   have h4:=ha.lt aX
   have h5:m / 65536<RR ^ (a.length-1):=by
    have h6:RR ^ a.length=RR ^ (a.length-1)*RR:=by
     conv=>lhs;rw [show a.length=a.length-1+1 by omega,Int.pow_succ]
    rw [h6,dJ] at h4
    rw [dJ]
    omega
   have:=h2.fZ cM h5
   omega
  obtain ⟨r,h7,h8⟩:=ih (m / 65536).toNat Ky q (h++[m % 65536]) (m / 65536) rfl h2 (by simp;omega) (by simp;omega) (hd.append (Dg.mk Ky (by rw [BT];omega) (Dg.nil _)))
   (by
    intro hz2 hne
    rw [mH]
    omega)
   (by rw [l7,List.length_append,List.length_singleton,Int.pow_succ,Int.mul_comm (HH ^ h.length) HH];exact alg_h hv (by rw [BT];omega)) (fun _ _=>trivial)
  refine ⟨r,?_,h8⟩
  refine Ev.step (fun k=>by rw [aD.l0]) ?_
  exact bA Ky (Ev.bind h1 (bA Ky h7))
theorem CF {a:List Int} {n:Int} (hn:a.length<1073741824) (ha:Can RR a n):∃ r,Ev (fun k=>aD.f k a) r/\Can WW r n:=by
 obtain ⟨r,h1,h2⟩:=CG n n.toNat a [] n rfl ha (by simp;omega) (by simp;omega) (Dg.nil _) (fun _=>Nm.nil) (by simp [vl]) (fun _ _=>trivial)
 exact ⟨r,Ev.congr (fun k=>by rw [aD.f]) h1,h2⟩
theorem eq_ev {a b:List Int} (hl:a.length=b.length) (hn:a.length<4611686018427387904) (d:Nat):∀ i:Nat,a.length-i=d->i<=a.length->a.take i=b.take i->∃ r,Ev (fun k=>aH.l0 k a b (a.length:Int) (i:Int)) r/\(r=true↔a=b):=by
 induction d with
 | zero =>
  intro i h1 h2 h3
  have e:i=a.length:=Ky
  subst e
  rw [List.take_length,List.take_of_length_le Ky] at h3
  refine ⟨true,?_,by simp [h3]⟩
  refine Ev.step (fun k=>by rw [aH.l0]) ?_
  exact dP Ky (aZ _)
 | succ d ih =>
  intro i h1 h2 h3
  by_cases he:rd a i=rd b i
  ·obtain ⟨r,h4,h5⟩:=ih (i+1) Ky Ky (by
    rw [List.take_succ_eq_append_getElem Ky,List.take_succ_eq_append_getElem Ky,h3,<- ki a i Ky,<- ki b i Ky,he])
   refine ⟨r,?_,h5⟩
   refine Ev.step (fun k=>by rw [aH.l0]) ?_
   rw [fp (i:=i) Ky]
   exact bA Ky (bA Ky (bA Ky (bA Ky (bA he h4))))
  refine ⟨false,?_,by
   simp only [Bool.false_eq_true,false_iff]
   rintro rfl
   exact he rfl⟩
  refine Ev.step (fun k=>by rw [aH.l0]) ?_
  exact bA Ky (bA Ky (bA Ky (bA Ky (dP he (aZ _)))))
theorem eq_sp (a b:List Int) (hn:a.length<4611686018427387904):∃ r,Ev (fun k=>aH.f k a b) r/\(r=true↔a=b):=by
 unfold aH.f
 by_cases hl:a.length=b.length
 ·obtain ⟨r,h1,h2⟩:=eq_ev hl hn a.length 0 Ky Ky Kz
  exact ⟨r,bA Ky h1,h2⟩
 refine ⟨false,dP Ky (aZ _),?_⟩
 simp only [Bool.false_eq_true,false_iff]
 rintro rfl
 exact hl rfl
theorem AE (k:IntKind) (a b:Int):Go.bits .or k a b=Go.bits .or k b a:=by
 simp only [Go.bits]
 rw [BitVec.or_comm]
theorem C0 {h x:Int} (hh:0<=h/\h<4294967296) (hx:0<=x/\x<4294967296):Go.bits .or .u64 (h*4294967296) x=h*4294967296+x :=
 bits_join .u64 64 (by decide) (fun n h0 h1=>by rw [IntKind.wrap_u64];omega) 32 _ _ Ky Ky Ky hx.1 Ky Ky
theorem or64' {h x:Int} (hh:0<=h/\h<4294967296) (hx:0<=x/\x<4294967296):Go.bits .or .u64 x (h*4294967296)=h*4294967296+x:=by
 rw [AE,C0 hh hx]
theorem alg_dw {t r va q rr d R K:Int} (h:t*K+r=va) (h2:q*K+rr=r*R+d):(q+R*t)*K+rr=d+R*va:=by grind
theorem vi {a:List Int} (hn:a.length<68719476736) (ha:Dg WW a) {K:Int} (hK:1<=K/\K<4294967296) (d:Nat):∀ (i:Nat) (o:List Int) (r:Int),i=d->i<=a.length->o.length=a.length->Dg WW (o.drop i)->0<=r->r<K->vl WW (o.drop i)*K+r=vl WW (a.drop i) ->
 ∃ q z,Ev (fun k=>dh.l0 k a K o r ((i:Int)-1)) (q,z)/\(∃ m,Can WW q m/\m*K+z=vl WW a)/\0<=z/\z<K/\q.length<=a.length:=by
 induction d with
 | zero =>
  rintro i o r rfl h1 h2 h3 h4 h5 h6
  rw [List.drop_zero] at h3 h6
  rw [List.drop_zero] at h6
  obtain ⟨q,h7,h8,h9⟩:=fu (l:=o) Ky h3
  have er:r % 4294967296=r:=Ky
  refine ⟨q,r,?_,⟨_,h8,h6⟩,h4,h5,Ky⟩
  refine Ev.step (fun k=>by rw [dh.l0]) ?_
  rw [er]
  exact dP Ky (Ev.bind h7 (aZ _))
 | succ d ih =>
  rintro i o r rfl h1 h2 h3 h4 h5 h6
  have e1:(((d+1:Nat):Int)-1)=(d:Int):=Ky
  have hx:=di ha (d:Int) Ky Ky
  rw [cE] at hx
  have hv0:0<=r*4294967296+rd a d:=Ky
  have hq0:0<=(r*4294967296+rd a d) / K:=Int.ediv_nonneg hv0 Ky
  have hq1:(r*4294967296+rd a d) / K<4294967296:=by
   refine Int.ediv_lt_of_lt_mul Ky ?_
   have:(r+1)*4294967296<=K*4294967296:=Int.mul_le_mul_of_nonneg_right Ky Ky
   omega
  have hm0:=Int.emod_nonneg (r*4294967296+rd a d) (show K≠0 by omega)
  have hm1:=Int.emod_lt_of_pos (r*4294967296+rd a d) (show 0<K by omega)
  have hdv:(r*4294967296+rd a d) / K*K+(r*4294967296+rd a d) % K=r*WW+rd a d:=by rw [cE];exact Int.ediv_mul_add_emod _ _
  obtain ⟨q,z,h7,h8⟩:=ih d (o.set d ((r*4294967296+rd a d) / K)) ((r*4294967296+rd a d) % K) rfl Ky (by simpa using h2)
   (by rw [fe _ _ _ Ky];exact Dg.mk hq0 (by rw [cE];exact hq1) h3) hm0 hm1
   (by rw [fe _ _ _ Ky,fj a d Ky,vl,vl];exact alg_dw h6 hdv)
  refine ⟨q,z,?_,h8⟩
  refine Ev.step (fun k=>by rw [dh.l0]) ?_
  rw [e1,u64 (x:=r*4294967296) Ky Ky,u64 (x:=rd a d) Ky Ky,u64 (x:=K) Ky Ky,C0 ⟨h4,Ky⟩ hx,fi hv0,fq hv0,u64 (x:=(r*4294967296+rd a d) / K) Ky Ky,cn (x:=(d:Int)-1) Ky Ky,Int.toNat_natCast,Int.emod_eq_of_lt hq0 hq1]
  exact bA Ky (bA Ky (bA Ky (dP Ky (bA Ky h7))))
theorem vg {a:List Int} {n K:Int} (hn:a.length<68719476736) (ha:Can WW a n) (hK:1<=K/\K<4294967296):∃ q,Ev (fun k=>dh.f k a K) (q,n % K)/\Can WW q (n / K)/\q.length<=a.length:=by
 obtain ⟨q,z,h1,⟨m,h2,h3⟩,h4,h5,h6⟩:=vi hn ha.1 hK a.length a.length (List.replicate a.length 0) 0 rfl (Nat.le_refl _) Kz (by rw [List.drop_eq_nil_of_le Kz];exact Dg.nil _) Ky Ky (by rw [List.drop_eq_nil_of_le Kz,List.drop_length];simp [vl])
 rw [ha.2.2] at h3
 have e1:n / K=m:=by
  rw [<- h3,Int.add_comm,Int.add_mul_ediv_right _ _ Ky,Int.ediv_eq_zero_of_lt h4 h5];omega
 have e2:n % K=z:=by
  rw [<- h3,Int.add_comm,Int.add_mul_emod_self_right,Int.emod_eq_of_lt h4 h5]
 refine ⟨q,?_,by rw [e1];exact h2,h6⟩
 unfold dh.f
 rw [e2,cn (x:=(a.length:Int)-1) Ky Ky,Int.toNat_natCast]
 exact bA Ky (bA Ky h1)
theorem Jj:∀ i:Fin 256,∃ L:Fin 9,bt (⟨#[0,1,2,2,3,3,3,3,4,4,4,4,4,4,4,4,5,5,5,5,5,5,5,5,5,5,5,5,5,5,5,5,6,6,6,6,6,6,6,6,6,6,6,6,6,6,6,6,6,6,6,6,6,6,6,6,6,6,6,6,6,6,6,6,7,7,7,7,7,7,7,7,7,7,7,7,7,7,7,7,7,7,7,7,7,7,7,7,7,7,7,7,7,7,7,7,7,7,7,7,7,7,7,7,7,7,7,7,7,7,7,7,7,7,7,7,7,7,7,7,7,7,7,7,7,7,7,7,8,8,8,8,8,8,8,8,8,8,8,8,8,8,8,8,8,8,8,8,8,8,8,8,8,8,8,8,8,8,8,8,8,8,8,8,8,8,8,8,8,8,8,8,8,8,8,8,8,8,8,8,8,8,8,8,8,8,8,8,8,8,8,8,8,8,8,8,8,8,8,8,8,8,8,8,8,8,8,8,8,8,8,8,8,8,8,8,8,8,8,8,8,8,8,8,8,8,8,8,8,8,8,8,8,8,8,8,8,8,8,8,8,8,8,8,8,8,8,8,8,8,8,8,8,8,8,8]⟩:ByteArray) ((i.val:Nat):Int)=(L.val:Int)/\i.val<2 ^ L.val/\(i.val≠0->2 ^ (L.val-1)<=i.val/\1<=L.val):=by decide +kernel
theorem qw {x:Int} (h0:0<=x) (h1:x<256):∃ L:Nat,bt (⟨#[0,1,2,2,3,3,3,3,4,4,4,4,4,4,4,4,5,5,5,5,5,5,5,5,5,5,5,5,5,5,5,5,6,6,6,6,6,6,6,6,6,6,6,6,6,6,6,6,6,6,6,6,6,6,6,6,6,6,6,6,6,6,6,6,7,7,7,7,7,7,7,7,7,7,7,7,7,7,7,7,7,7,7,7,7,7,7,7,7,7,7,7,7,7,7,7,7,7,7,7,7,7,7,7,7,7,7,7,7,7,7,7,7,7,7,7,7,7,7,7,7,7,7,7,7,7,7,7,8,8,8,8,8,8,8,8,8,8,8,8,8,8,8,8,8,8,8,8,8,8,8,8,8,8,8,8,8,8,8,8,8,8,8,8,8,8,8,8,8,8,8,8,8,8,8,8,8,8,8,8,8,8,8,8,8,8,8,8,8,8,8,8,8,8,8,8,8,8,8,8,8,8,8,8,8,8,8,8,8,8,8,8,8,8,8,8,8,8,8,8,8,8,8,8,8,8,8,8,8,8,8,8,8,8,8,8,8,8,8,8,8,8,8,8,8,8,8,8,8,8,8,8,8,8,8,8]⟩:ByteArray) x=(L:Int)/\L<=8/\x<2 ^ L/\(x≠0->2 ^ (L-1)<=x/\1<=L):=by
 obtain ⟨n,rfl⟩:=Int.eq_ofNat_of_zero_le h0
 obtain ⟨L,h2,h3,h4⟩:=Jj ⟨n,Ky⟩
 refine ⟨L.val,h2,Ky,by exact_mod_cast h3,fun h=>?_⟩
 obtain ⟨h5,h6⟩:=h4 (show n≠0 by omega)
 exact ⟨by exact_mod_cast h5,h6⟩
theorem Ct {x y:Int} {L k:Nat} (h0:0<=x) (e:y=x / 2 ^ k) (h1:y<2 ^ L) (h2:2 ^ (L-1)<=y) (h3:1<=L):x<2 ^ (k+L)/\2 ^ (k+L-1)<=x:=by
 have hp:(0:Int)<2 ^ k:=Int.pow_pos (by decide)
 have d1:=Int.mul_ediv_add_emod x (2 ^ k)
 have d2:=Int.emod_nonneg x (show (2:Int) ^ k≠0 by omega)
 have d3:=Int.emod_lt_of_pos x hp
 rw [<- e] at d1
 have e2:k+L-1=k+(L-1):=Ky
 rw [e2,Int.pow_add,Int.pow_add]
 have m1:(2:Int) ^ k*(y+1)<=2 ^ k*2 ^ L:=Int.mul_le_mul_of_nonneg_left Ky Ky
 have m2:(2:Int) ^ k*2 ^ (L-1)<=2 ^ k*y:=Int.mul_le_mul_of_nonneg_left h2 Ky
 rw [Int.mul_add] at m1
 omega
theorem HQ {x:Int} (h0:0<=x) (h1:x<4294967296):∃ L:Nat,bits_Len32.f x=some (L:Int)/\L<=32/\x<2 ^ L/\(x≠0->2 ^ (L-1)<=x/\1<=L):=by
 unfold bits_Len32.f
 by_cases c1:x>=65536
 ·by_cases c2:x / 65536>=256
  ·have e:x / 65536 / 256 % 256=x / 2 ^ 24:=by omega
   obtain ⟨L,t1,t2,t3,t4⟩:=qw (x:=x / 2 ^ 24) Ky Ky
   obtain ⟨t5,t6⟩:=t4 Ky
   obtain ⟨t7,t8⟩:=Ct h0 rfl t3 t5 t6
   refine ⟨24+L,?_,Ky,t7,fun _=>⟨t8,Ky⟩⟩
   rw [if_pos c1,if_pos c2,e,if_pos Ky,if_pos Ky,t1,cn (x:=(L:Int)) Ky Ky,cn Ky Ky]
   exact congrArg some Ky
  have e:x / 65536 % 256=x / 2 ^ 16:=Ky
  obtain ⟨L,t1,t2,t3,t4⟩:=qw (x:=x / 2 ^ 16) Ky Ky
  obtain ⟨t5,t6⟩:=t4 Ky
  obtain ⟨t7,t8⟩:=Ct h0 rfl t3 t5 t6
  refine ⟨16+L,?_,Ky,t7,fun _=>⟨t8,Ky⟩⟩
  rw [if_pos c1,if_neg c2,e,if_pos Ky,if_pos Ky,t1,cn (x:=(L:Int)) Ky Ky,cn Ky Ky]
  exact congrArg some Ky
 by_cases c2:x>=256
 ·have e:x / 256 % 256=x / 2 ^ 8:=by omega
  obtain ⟨L,t1,t2,t3,t4⟩:=qw (x:=x / 2 ^ 8) Ky Ky
  obtain ⟨t5,t6⟩:=t4 Ky
  obtain ⟨t7,t8⟩:=Ct h0 rfl t3 t5 t6
  refine ⟨8+L,?_,Ky,t7,fun _=>⟨t8,Ky⟩⟩
  rw [if_neg c1,if_pos c2,e,if_pos Ky,if_pos Ky,t1,cn (x:=(L:Int)) Ky Ky,cn Ky Ky]
  exact congrArg some Ky
 have e:x % 256=x:=Ky
 obtain ⟨L,t1,t2,t3,t4⟩:=qw (x:=x) Ky Ky
 refine ⟨L,?_,Ky,t3,t4⟩
 rw [if_neg c1,if_neg c2,e,if_pos Ky,if_pos Ky,t1,cn (x:=(L:Int)) Ky Ky,cn Ky Ky]
 exact congrArg some Ky
theorem Es {x:Int} (h0:0<=x) (h1:x<4294967296):∃ L:Nat,bits_LeadingZeros32.f x=some ((32-L:Nat):Int)/\L<=32/\x<2 ^ L/\(x≠0->2 ^ (L-1)<=x/\1<=L):=by
 obtain ⟨L,t1,t2,t3⟩:=HQ h0 h1
 refine ⟨L,?_,t2,t3⟩
 unfold bits_LeadingZeros32.f
 rw [t1,Option.bind_some,cn Ky Ky]
 exact congrArg some Ky
theorem DO (w:Nat):WW ^ w=2 ^ (32*w):=by rw [Int.pow_mul];rfl
theorem xg (s:Nat):(2:Int) ^ s=WW ^ (s / 32)*2 ^ (s % 32):=by
 rw [DO,<- Int.pow_add];congr 1;omega
theorem qZ {a:List Int} (h:0<a.length):vl WW a=vl WW (a.take (a.length-1))+rd a ((a.length:Int)-1)*WW ^ (a.length-1):=by
 have e:=cZ WW a (a.length-1) Ky
 rw [Nat.sub_add_cancel h,List.take_length] at e
 rw [e]
 congr 2
 congr 1
 omega
theorem tF {a:List Int} {n:Int} (hn:a.length<68719476736) (ha:Can WW a n):∃ b:Nat,gB.f a=some (b:Int)/\b<=32*a.length/\(a.length=0->b=0)/\(n≠0->2 ^ (b-1)<=n/\n<2 ^ b/\1<=b/\32*(a.length-1)<b):=by
 unfold gB.f
 by_cases c:a.length=0
 ·refine ⟨0,by rw [if_pos Ky];rfl,Ky,fun _=>rfl,fun h=>absurd ((ha.iV aE).1 c) h⟩
 have hx:=di ha.1 ((a.length:Int)-1) Ky Ky
 have hnz:=ha.2.1.rd Ky
 rw [cE] at hx
 obtain ⟨L,t1,t2,t3,t4⟩:=Es hx.1 hx.2
 obtain ⟨t5,t6⟩:=t4 hnz
 refine ⟨32*a.length-(32-L),?_,Ky,fun h=>absurd h c,fun _=>?_⟩
 ·rw [if_neg Ky,cn (x:=(a.length:Int)-1) Ky Ky,if_pos Ky,if_pos Ky,t1,Option.bind_some,cn (x:=32*(a.length:Int)) Ky Ky,cn Ky Ky]
  congr 1
  omega
 have lv:=qZ (a:=a) Ky
 rw [ha.2.2] at lv
 have hd:=ha.1.take (a.length-1)
 have l0:=bL aE hd
 have l1:=fK aE hd
 rw [List.length_take,Nat.min_eq_left Ky] at l1
 have hP:(0:Int)<WW ^ (a.length-1):=iJ aE _
 generalize hr:rd a ((a.length:Int)-1)=r at *
 have e1:(2:Int) ^ (32*a.length-(32-L))=2 ^ L*WW ^ (a.length-1):=by rw [DO,<- Int.pow_add];congr 1;omega
 have e2:(2:Int) ^ (32*a.length-(32-L)-1)=2 ^ (L-1)*WW ^ (a.length-1):=by rw [DO,<- Int.pow_add];congr 1;omega
 have m1:(r+1)*WW ^ (a.length-1)<=2 ^ L*WW ^ (a.length-1):=Int.mul_le_mul_of_nonneg_right Ky Ky
 have m2:2 ^ (L-1)*WW ^ (a.length-1)<=r*WW ^ (a.length-1):=Int.mul_le_mul_of_nonneg_right t5 Ky
 rw [Int.add_mul] at m1
 rw [e1,e2]
 exact ⟨Ky,Ky,Ky,Ky⟩
theorem GS {x:Int} {p:Nat} (hp:p<32) (hx:0<=x/\x<4294967296):shl .u64 (IntKind.u64.wrap x) (p:Int)=x*2 ^ p/\0<=x*2 ^ p/\x*2 ^ p<4294967296*2 ^ p/\(2:Int) ^ p<=2147483648/\(1:Int)<=2 ^ p:=by
 have h1:(1:Int)<=2 ^ p:=by have:(0:Int)<2 ^ p:=Int.pow_pos (by decide);omega
 have h2:(2:Int) ^ p<=2 ^ 31:=by
  have:2 ^ p<=2 ^ 31:=Nat.pow_le_pow_right (by decide) Ky
  exact_mod_cast this
 have h3:x*2 ^ p<4294967296*2 ^ p:=Int.mul_lt_mul_of_pos_right hx.2 Ky
 have h4:0<=x*2 ^ p:=Int.mul_nonneg hx.1 Ky
 refine ⟨?_,h4,h3,Ky,h1⟩
 have hm:min p IntKind.u64.bits=p:=by
  have:IntKind.u64.bits=64:=rfl
  omega
 unfold shl
 rw [Int.toNat_natCast,hm,u64 (x:=x) Ky Ky,u64 h4 Ky]
theorem Kk {vo P pQ lo hi va x M W T Q:Int} (h:vo+pQ*P=va*M*T) (hy:lo+W*hi=x*M) (hP:P=T*Q):(vo+(pQ+lo)*P)+hi*(W*P)=(va+x*Q)*M*T:=by grind
theorem Hv {x pQ:Int} {p:Nat} (hp:p<32) (hx:0<=x/\x<4294967296) (ho:0<=pQ/\pQ<2 ^ p):Go.bits .or .u32 pQ (x*2 ^ p % 4294967296)=pQ+x*2 ^ p % 4294967296:=by
 obtain ⟨_,h1,h2,h3,h4⟩:=GS hp hx
 have hd:x*2 ^ p % 4294967296 % 2 ^ p=0:=by
  have hdv:(2:Int) ^ p ∣ 4294967296:=by
   have:(4294967296:Int)=2 ^ p*2 ^ (32-p):=by rw [<- Int.pow_add,show p+(32-p)=32 by omega];rfl
   rw [this];exact Int.dvd_mul_right _ _
  rw [Int.emod_emod_of_dvd _ hdv,Int.mul_emod_left]
 rw [AE,bits_join .u32 32 (by decide) (fun n h0 h1=>by rw [IntKind.wrap_u32];omega) p _ _ Ky hd Ky ho.1 ho.2 Ky]
 omega
theorem FB {x pQ:Int} {p:Nat} (hp:p<32) (hx:0<=x/\x<4294967296) (ho:0<=pQ/\pQ<2 ^ p):pQ+x*2 ^ p % 4294967296<4294967296:=by
 have h:=(bits_within .or .u32 pQ (x*2 ^ p % 4294967296)).2
 rw [Hv hp hx ho] at h
 have e:IntKind.u32.max=4294967295:=rfl
 rw [e] at h
 exact Int.lt_of_le_of_lt h (by decide)
theorem De {a:List Int} {w p:Nat} (hn:a.length+w<68719476736) (hp:p<32) (ha:Dg WW a) (d:Nat):∀ (i:Nat) (o:List Int),a.length-i=d->i<=a.length->o.length=a.length+w+1->Dg WW o->vl WW (o.take (i+w+1))=vl WW (a.take i)*2 ^ p*WW ^ w->rd o ((i+w:Nat):Int)<2 ^ p ->
 ∃ r,Ev (fun k=>eQ.l0 k (w:Int) (p:Int) o a (a.length:Int) (i:Int)) r/\Can WW r (vl WW a*(WW ^ w*2 ^ p))/\r.length<=a.length+w+1:=by
 induction d with
 | zero =>
  intro i o h1 h2 h3 h4 h5 h6
  have ei:i=a.length:=Ky
  subst ei
  rw [<- h3,List.take_length,List.take_length] at h5
  obtain ⟨r,r1,r2,r3⟩:=fu (l:=o) Ky h4
  rw [h5] at r2
  refine ⟨r,?_,by rw [Int.mul_comm (WW ^ w),<- Int.mul_assoc];exact r2,Ky⟩
  refine Ev.step (fun k=>by rw [eQ.l0]) ?_
  exact dP Ky (Ev.bind r1 (aZ _))
 | succ d ih =>
  intro i o h1 h2 h3 h4 h5 h6
  have hx:=di ha (i:Int) Ky Ky
  have ho:=di h4 ((i+w:Nat):Int) Ky Ky
  rw [cE] at hx ho
  obtain ⟨s2,s3,s4,s5⟩:=(GS hp hx).2
  have hy1:rd a (i:Int)*2 ^ p % 4294967296+WW*(rd a (i:Int)*2 ^ p / 4294967296)=rd a (i:Int)*2 ^ p:=by rw [cE];exact Int.emod_add_mul_ediv _ _
  have hhi0:0<=rd a (i:Int)*2 ^ p / 4294967296:=Ky
  have hhi1:rd a (i:Int)*2 ^ p / 4294967296<2 ^ p:=Int.ediv_lt_of_lt_mul Ky Ky
  have hdv:=FB hp hx ⟨ho.1,h6⟩
  generalize hlo:rd a (i:Int)*2 ^ p % 4294967296=lo at *
  generalize hhi:rd a (i:Int)*2 ^ p / 4294967296=hi at *
  have hlo0:0<=lo:=Ky
  have d1:Dg WW (o.set (i+w) (rd o ((i+w:Nat):Int)+lo)):=h4.set _ Ky (by rw [cE];omega)
  obtain ⟨r,r1,r2⟩:=ih (i+1) ((o.set (i+w) (rd o ((i+w:Nat):Int)+lo)).set (i+w+1) hi) Ky Ky (by simpa using h3)
   (d1.set _ hhi0 (by rw [cE];omega))
   (by
    rw [show i+1+w+1=i+w+1+1 by omega,gx _ _ _ _ (by simp;omega),gx _ _ _ _ Ky,cZ WW a i Ky,Int.pow_succ,Int.mul_comm (WW ^ (i+w)) WW]
    rw [cZ WW o (i+w) Ky] at h5
    exact Kk h5 hy1 (by rw [Int.pow_add,Int.mul_comm]))
   (by
    rw [show ((i+1+w:Nat):Int)=((i+w+1:Nat):Int) by omega]
    have:=xc (o.set (i+w) (rd o ((i+w:Nat):Int)+lo)) ((i+w+1:Nat):Int) hi (by simp;omega)
    rw [Int.toNat_natCast] at this
    rw [this]
    exact hhi1)
  refine ⟨r,?_,r2⟩
  refine Ev.step (fun k=>by rw [eQ.l0]) ?_
  have e2:hi % 4294967296=hi:=Ky
  rw [show (i:Int)+(w:Int)=((i+w:Nat):Int) by omega,cn (x:=((i+w:Nat):Int)) Ky Ky,fp (i:=i+w) Ky,fp (i:=i) Ky,Int.toNat_natCast,Int.toNat_natCast,(GS hp hx).1,hlo,hhi,e2]
  have so:=Hv hp hx ⟨ho.1,h6⟩
  rw [hlo] at so
  rw [so]
  clear so
  exact bA Ky (bA Ky (bA Ky (bA Ky (bA Ky (bA Ky (bA Ky (bA Ky r1)))))))
theorem vj {a:List Int} {n:Int} (s:Nat) (hn:a.length+s<68719476736) (ha:Can WW a n):∃ r,Ev (fun k=>eQ.f k a (s:Int)) r/\Can WW r (n*2 ^ s)/\r.length<=a.length+s / 32+1:=by
 unfold eQ.f
 by_cases c:a.length=0
 ·refine ⟨[],bA Ky (aZ _),?_,Kz⟩
  rw [(ha.iV aE).1 c,Int.zero_mul]
  exact Can.zero _
 obtain ⟨r,r1,r2,r3⟩:=De (a:=a) (w:=s / 32) (p:=s % 32) Ky Ky ha.1 a.length 0 (List.replicate (a.length+s / 32+1) 0) Ky Ky Kz (Dg.rep aE _)
  (by rw [List.take_replicate,xN,List.take_zero,vl];simp)
  (by
   have h1:(0:Int)<2 ^ (s % 32):=Int.pow_pos (by decide)
   have h2:rd (List.replicate (a.length+s / 32+1) (0:Int)) ((0+s / 32:Nat):Int)=0:=by
    rw [ki _ _ (by simp;omega)];simp
   rw [h2];exact h1)
 rw [<- xg,ha.2.2] at r2
 refine ⟨r,?_,r2,r3⟩
 have e1:wrap64 (Int.tdiv (s:Int) 32)=((s / 32:Nat):Int):=by rw [fi Ky,cn Ky Ky];omega
 have e2:IntKind.u64.wrap (Int.tmod (s:Int) 32)=((s % 32:Nat):Int):=by rw [fq Ky,u64 Ky Ky];omega
 have e3:wrap64 (wrap64 ((a.length:Int)+((s / 32:Nat):Int))+1)=((a.length+s / 32+1:Nat):Int):=by rw [cn (x:=(a.length:Int)+((s / 32:Nat):Int)) Ky Ky,cn Ky Ky];omega
 rw [e1,e2,e3,Int.toNat_natCast]
 exact dP Ky (bA Ky (bA Ky r1))
theorem two_pos (p:Nat):(0:Int)<2 ^ p:=Int.pow_pos (by decide)
theorem shr_p {x:Int} {p:Nat} (hp:p<32):shr .u64 x (p:Int)=x / 2 ^ p:=by
 have hm:min p IntKind.u64.bits=p:=by
  have:IntKind.u64.bits=64:=rfl
  omega
 unfold shr
 rw [Int.toNat_natCast,hm]
theorem I1 {p:Nat} (hp:p<32):WW=2 ^ p*2 ^ (32-p):=by rw [<- Int.pow_add,show p+(32-p)=32 by omega];rfl
theorem GR {x T t:Int} {p:Nat} (hp:p<32) (hx:0<=x/\x<WW) (ht:0<=t/\t<WW) (hT:∃ u,0<=u/\T=t+WW*u) :
 (t*WW+x) / 2 ^ p % WW+WW*(T / 2 ^ p)=(x+WW*T) / 2 ^ p/\0<=(t*WW+x) / 2 ^ p % WW/\(t*WW+x) / 2 ^ p % WW<WW:=by
 obtain ⟨u,hu,hT⟩:=hT
 have hM:=two_pos p
 have hW:=I1 hp
 have hK:=two_pos (32-p)
 have hWp:=aE
 have hWe:=cE
 generalize hMM:(2:Int) ^ p=M at *
 generalize hKK:(2:Int) ^ (32-p)=K at *
 refine ⟨?_,Int.emod_nonneg _ Ky,Int.emod_lt_of_pos _ hWp⟩
 have d1:=Int.mul_ediv_add_emod t M
 have r0:=Int.emod_nonneg t (show M≠0 by omega)
 have r1:=Int.emod_lt_of_pos t hM
 generalize hq:t / M=q at *
 generalize hr:t % M=r at *
 clear hq hr
 have a1:t*WW+x=(x+WW*r)+M*(WW*q):=by rw [<- d1];grind
 have a2:T=r+M*(q+K*u):=by rw [hT,<- d1,hW];grind
 have a3:x+WW*T=(x+WW*r)+M*(WW*(q+K*u)):=by rw [a2];grind
 have lo:0<=x+WW*r:=by
  have:=Int.mul_nonneg (Int.le_of_lt hWp) r0
  omega
 have hi:x+WW*r<M*WW:=by
  have m:WW*(r+1)<=WW*M:=Int.mul_le_mul_of_nonneg_left Ky Ky
  rw [Int.mul_add,Int.mul_comm WW M] at m
  omega
 rw [a1,a3,Int.add_mul_ediv_left _ _ Ky,Int.add_mul_ediv_left _ _ Ky]
 have e2:T / M=q+K*u:=by rw [a2,Int.add_mul_ediv_left _ _ Ky,Int.ediv_eq_zero_of_lt r0 r1];omega
 rw [e2]
 have b0:0<=(x+WW*r) / M:=Int.ediv_nonneg lo Ky
 have b1:(x+WW*r) / M<WW:=Int.ediv_lt_of_lt_mul hM (by rw [Int.mul_comm WW M];exact hi)
 rw [Int.add_mul_emod_self_left,Int.emod_eq_of_lt b0 b1]
theorem Kj {vo P d T W V T0:Int} (h:vo+P*T0=V) (h2:d+W*T=T0):(vo+d*P)+(P*W)*T=V:=by grind
theorem Gr (a:List Int) (ha:Dg WW a) (i:Nat):∃ t,0<=t/\t<WW/\(∃ u,0<=u/\vl WW (a.drop i)=t+WW*u)/\(i<a.length->t=rd a (i:Int))/\(a.length<=i->t=0):=by
 by_cases c:i<a.length
 ·have hx:=di ha (i:Int) Ky Ky
  refine ⟨rd a (i:Int),hx.1,hx.2,⟨vl WW (a.drop (i+1)),bL aE (ha.drop _),by rw [fj a i c,vl]⟩,fun _=>rfl,fun h=>Ky⟩
 exact ⟨0,by decide,by decide,⟨0,by decide,by rw [List.drop_eq_nil_of_le Ky,vl];rfl⟩,fun h=>absurd h c,fun _=>rfl⟩
theorem Dd {a:List Int} {w p m:Nat} (hn:a.length<68719476736) (hw:w+m=a.length) (hp:p<32) (ha:Dg WW a) (d:Nat):∀ (i:Nat) (o:List Int),m-i=d->i<=m->o.length=m->Dg WW (o.take i)->vl WW (o.take i)+WW ^ i*(vl WW (a.drop (i+w)) / 2 ^ p)=vl WW (a.drop w) / 2 ^ p ->
 ∃ r,Ev (fun k=>eF.l0 k a (w:Int) (p:Int) o (m:Int) (i:Int)) r/\Can WW r (vl WW (a.drop w) / 2 ^ p)/\r.length<=m:=by
 induction d with
 | zero =>
  intro i o h1 h2 h3 h4 h5
  have ei:i=m:=Ky
  subst ei
  rw [List.drop_eq_nil_of_le Ky,vl,Int.zero_ediv,Int.mul_zero,Int.add_zero,<- h3,List.take_length] at h5
  rw [<- h3,List.take_length] at h4
  obtain ⟨r,r1,r2,r3⟩:=fu (l:=o) Ky h4
  rw [h5] at r2
  refine ⟨r,?_,r2,Ky⟩
  refine Ev.step (fun k=>by rw [eF.l0]) ?_
  exact dP Ky (Ev.bind r1 (aZ _))
 | succ d ih =>
  intro i o h1 h2 h3 h4 h5
  have hx:=di ha ((i+w:Nat):Int) Ky Ky
  obtain ⟨t,t0,t1,t2,t3,t4⟩:=Gr a ha (i+w+1)
  obtain ⟨s1,s2,s3⟩:=GR hp hx ⟨t0,t1⟩ t2
  rw [fj a (i+w) Ky,vl] at h5
  obtain ⟨r,r1,r2⟩:=ih (i+1) (o.set i ((t*WW+rd a ((i+w:Nat):Int)) / 2 ^ p % WW)) Ky Ky (by simpa using h3)
   (Dg.take_set Ky h4 s2 s3)
   (by
    rw [gx _ _ _ _ Ky,show i+1+w=i+w+1 by omega,Int.pow_succ]
    exact Kj h5 s1)
  refine ⟨r,?_,r2⟩
  refine Ev.step (fun k=>by rw [eF.l0]) ?_
  rw [cE] at hx t1
  rw [show (i:Int)+(w:Int)=((i+w:Nat):Int) by omega,cn (x:=((i+w:Nat):Int)) Ky Ky,fp (i:=i+w) Ky,fp (i:=i) Ky,Int.toNat_natCast]
  refine bA Ky (bA Ky (bA Ky ?_))
  by_cases c:i+w+1<a.length
  ·have e:=t3 c
   rw [<- e,u64 (x:=t) Ky Ky,u64 (x:=rd a ((i+w:Nat):Int)) Ky Ky,u64 (x:=t*4294967296) Ky Ky,or64' ⟨t0,t1⟩ hx,shr_p (x:=t*4294967296+rd a ((i+w:Nat):Int)) hp]
   exact bA Ky (bA Ky (bA Ky (bA Ky (bA Ky r1))))
  have e:=t4 Ky
  subst e
  rw [Int.zero_mul,Int.zero_add] at r1
  rw [u64 (x:=rd a ((i+w:Nat):Int)) Ky Ky,shr_p (x:=rd a ((i+w:Nat):Int)) hp]
  exact dP Ky (bA Ky (bA Ky (bA Ky r1)))
theorem Kc {a:List Int} {n:Int} (ha:Can WW a n) (s:Nat):(s / 32<a.length->n / 2 ^ s=vl WW (a.drop (s / 32)) / 2 ^ (s % 32))/\(a.length<=s / 32->n / 2 ^ s=0):=by
 have hP:=iJ aE (s / 32)
 have hM:=two_pos (s % 32)
 rw [xg s]
 constructor
 ·intro h
  have hd:=gH WW a (s / 32) Ky
  rw [ha.2.2] at hd
  have l0:=bL aE (ha.1.take (s / 32))
  have l1:=fK aE (ha.1.take (s / 32))
  rw [List.length_take,Nat.min_eq_left Ky] at l1
  rw [hd,<- Int.ediv_ediv_of_nonneg Ky,Int.add_mul_ediv_left _ _ Ky,Int.ediv_eq_zero_of_lt l0 l1,Int.zero_add]
 intro h
 have h1:=ha.lt aE
 have h2:=eV (B:=WW) (by decide) h
 refine Int.ediv_eq_zero_of_lt (ha.fH aE) ?_
 have h3:WW ^ (s / 32)*1<=WW ^ (s / 32)*2 ^ (s % 32):=Int.mul_le_mul_of_nonneg_left Ky Ky
 omega
theorem pW {a:List Int} {n:Int} (s:Nat) (hn:a.length<68719476736) (hs:s<68719476736) (ha:Can WW a n):∃ r,Ev (fun k=>eF.f k a (s:Int)) r/\Can WW r (n / 2 ^ s)/\r.length<=a.length:=by
 obtain ⟨c1,c2⟩:=Kc ha s
 have e1:wrap64 (Int.tdiv (s:Int) 32)=((s / 32:Nat):Int):=by rw [fi Ky,cn Ky Ky];omega
 have e2:IntKind.u64.wrap (Int.tmod (s:Int) 32)=((s % 32:Nat):Int):=by rw [fq Ky,u64 Ky Ky];omega
 unfold eF.f
 rw [e1,e2]
 clear e1 e2
 by_cases c:a.length<=s / 32
 ·refine ⟨[],bA Ky (aZ _),?_,Kz⟩
  rw [c2 c]
  exact Can.zero _
 obtain ⟨r,r1,r2,r3⟩:=Dd (a:=a) (w:=s / 32) (p:=s % 32) (m:=a.length-s / 32) hn Ky Ky ha.1 (a.length-s / 32) 0 (List.replicate (a.length-s / 32) 0) Ky Ky Kz (by rw [List.take_zero];exact Dg.nil _)
  (by rw [List.take_zero,vl,Int.pow_zero,Nat.zero_add];omega)
 rw [<- c1 Ky] at r2
 refine ⟨r,?_,r2,Ky⟩
 rw [show (a.length:Int)-((s / 32:Nat):Int)=((a.length-s / 32:Nat):Int) by omega,cn (x:=((a.length-s / 32:Nat):Int)) Ky Ky,Int.toNat_natCast]
 refine dP Ky (bA Ky (bA Ky (kB rfl ?_)))
 rw [List.length_replicate]
 exact r1
theorem GI {o c b g x:Int} (ho:0<=o/\o<4294967296) (hc:0<=c/\c<4294967296) (hb:0<=b/\b<=1) (hg:0<=g/\g<4294967296) (hx:0<=x/\x<4294967296) :
 ∃ v c' b',IntKind.u64.wrap (c+IntKind.u64.wrap (g*IntKind.u64.wrap x)) / 4294967296=c'/\IntKind.u64.wrap (IntKind.u64.wrap (IntKind.u64.wrap o-IntKind.u64.wrap (c+IntKind.u64.wrap (g*IntKind.u64.wrap x)) % 4294967296)-b) % 4294967296=v/\IntKind.u64.wrap (IntKind.u64.wrap (IntKind.u64.wrap o-IntKind.u64.wrap (c+IntKind.u64.wrap (g*IntKind.u64.wrap x)) % 4294967296)-b) / 9223372036854775808=b'/\v-4294967296*(c'+b')=o-(c+b)-g*x/\0<=v/\v<4294967296/\0<=c'/\c'<4294967296/\0<=b'/\b'<=1:=by
 have hm:=u6 hg hx
 rw [u64 (x:=x) Ky Ky,u64 (x:=g*x) Ky Ky,u64 (x:=c+g*x) Ky Ky,u64 (x:=o) Ky Ky,IntKind.wrap_u64,IntKind.wrap_u64]
 generalize g*x=t at *
 refine ⟨_,_,_,rfl,rfl,rfl,?_,?_,?_,?_,?_,?_,?_⟩<;>omega
theorem GJ {o c b:Int} (ho:0<=o/\o<4294967296) (hc:0<=c/\c<4294967296) (hb:0<=b/\b<=1) :
 ∃ v f,IntKind.u64.wrap (IntKind.u64.wrap (IntKind.u64.wrap o-c)-b) % 4294967296=v/\(IntKind.u64.wrap (IntKind.u64.wrap (IntKind.u64.wrap o-c)-b) / 9223372036854775808==1)=f/\0<=v/\v<4294967296/\v=o-(c+b)+(if f=true then 4294967296 else 0):=by
 rw [u64 (x:=o) Ky Ky,IntKind.wrap_u64,IntKind.wrap_u64]
 refine ⟨_,_,rfl,rfl,Ky,Ky,?_⟩
 simp only [beq_iff_eq]
 split<;>omega
theorem alg_s {vo c b P vu g vv v c' b' o x W:Int} (h:vo-(c+b)*P=vu-g*vv) (h2:v-W*(c'+b')=o-(c+b)-g*x):(vo+v*P)-(c'+b')*(W*P)=(vu+o*P)-g*(vv+x*P):=by grind
theorem alg_s2 {vo c b P vu g vv v o e W:Int} (h:vo-(c+b)*P=vu-g*vv) (h2:v=o-(c+b)+e):vo+v*P=(vu+o*P)-g*vv+e*P:=by grind
theorem tQ {u v:List Int} {g:Int} (hl:u.length=v.length+1) (hn:v.length<68719476736) (hu:Dg WW u) (hv:Dg WW v) (hg:0<=g/\g<4294967296) (d:Nat):∀ (i:Nat) (o:List Int) (c b:Int),v.length-i=d->i<=v.length->o.length=u.length->Dg WW (o.take i)->o.drop i=u.drop i->0<=c->c<4294967296->0<=b->b<=1->vl WW (o.take i)-(c+b)*WW ^ i=vl WW (u.take i)-g*vl WW (v.take i) ->
 ∃ f r,Ev (fun k=>bY.l0 k o v g c b v (v.length:Int) (i:Int)) (f,r)/\Dg WW r/\r.length=u.length/\vl WW r=vl WW u-g*vl WW v+(if f=true then WW ^ u.length else 0):=by
 induction d with
 | zero =>
  intro i o c b h1 h2 h3 h4 h5 h6 h7 h8 h9 h10
  have ei:i=v.length:=Ky
  subst ei
  have ho:=di hu (v.length:Int) Ky Ky
  rw [cE] at ho
  obtain ⟨z,f,e1,e2,z0,z1,z2⟩:=GJ ho ⟨h6,h7⟩ ⟨h8,h9⟩
  have er:=kh u o v.length h5 Ky h3
  refine ⟨f,o.set v.length z,?_,?_,by simpa using h3,?_⟩
  ·refine Ev.step (fun k=>by rw [bY.l0]) ?_
   refine dP Ky (bA Ky (bA Ky ?_))
   rw [er,e1,e2,Int.toNat_natCast]
   exact aZ _
  ·have:=Dg.take_set (l:=o) (i:=v.length) (v:=z) Ky h4 z0 (by rw [cE];exact z1)
   rw [List.take_of_length_le (by simp;omega)] at this
   exact this
  have e3:=gx WW o v.length z Ky
  rw [List.take_of_length_le (by simp;omega)] at e3
  have e4:=cZ WW u v.length Ky
  rw [List.take_of_length_le Ky] at e4
  rw [List.take_length] at h10
  rw [e3,e4,alg_s2 (W:=WW) h10 z2,hl,Int.pow_succ,Int.mul_comm (WW ^ v.length) WW]
  congr 1
  cases f
  ·simp
  simp
 | succ d ih =>
  intro i o c b h1 h2 h3 h4 h5 h6 h7 h8 h9 h10
  have ho:=di hu (i:Int) Ky Ky
  have hx:=di hv (i:Int) Ky Ky
  rw [cE] at ho hx
  obtain ⟨z,c',b',e1,e2,e3,e4,z0,z1,c0,c1,b0,b1⟩:=GI ho ⟨h6,h7⟩ ⟨h8,h9⟩ hg hx
  have er:=kh u o i h5 Ky h3
  obtain ⟨f,r,r1,r2⟩:=ih (i+1) (o.set i z) c' b' Ky Ky (by simpa using h3) (Dg.take_set Ky h4 z0 (by rw [cE];exact z1))
   (by rw [gG];exact drop_tail u o i h5) c0 c1 b0 b1
   (by
    rw [gx _ _ _ _ Ky,cZ WW u i Ky,cZ WW v i Ky,Int.pow_succ,Int.mul_comm (WW ^ i) WW]
    exact alg_s h10 e4)
  refine ⟨f,r,?_,r2⟩
  refine Ev.step (fun k=>by rw [bY.l0]) ?_
  rw [er,e1,e2,e3,fp (i:=i) Ky,Int.toNat_natCast]
  clear e1 e2 e3
  exact bA Ky (bA Ky (bA Ky (bA Ky r1)))
theorem tP {u v:List Int} {g:Int} (hl:u.length=v.length+1) (hn:v.length<68719476736) (hu:Dg WW u) (hv:Dg WW v) (hg:0<=g/\g<4294967296) :
 ∃ f r,Ev (fun k=>bY.f k u v g) (f,r)/\Dg WW r/\r.length=u.length/\vl WW r=vl WW u-g*vl WW v+(if f=true then WW ^ u.length else 0):=by
 obtain ⟨f,r,r1,r2⟩:=tQ hl hn hu hv hg v.length 0 u 0 0 Ky Ky rfl (by rw [List.take_zero];exact Dg.nil _) rfl Ky Ky Ky Ky (by simp [vl])
 exact ⟨f,r,by unfold bY.f;exact r1,r2⟩
theorem alg_r {vo c P vu vv v c' o x W:Int} (h:vo+c*P=vu+vv) (h2:v+W*c'=c+(o+x)):(vo+v*P)+c'*(W*P)=(vu+o*P)+(vv+x*P):=by grind
theorem alg_r2 {vo c P vu vv v o e W:Int} (h:vo+c*P=vu+vv) (h2:v+W*e=o+c):vo+v*P+e*(W*P)=(vu+o*P)+vv:=by grind
theorem ve {u v:List Int} (hl:u.length=v.length+1) (hn:v.length<68719476736) (hu:Dg WW u) (hv:Dg WW v) (d:Nat):∀ (i:Nat) (o:List Int) (c:Int),v.length-i=d->i<=v.length->o.length=u.length->Dg WW (o.take i)->o.drop i=u.drop i->0<=c->c<=1->vl WW (o.take i)+c*WW ^ i=vl WW (u.take i)+vl WW (v.take i) ->
 ∃ r e,Ev (fun k=>cf.l0 k o v c v (v.length:Int) (i:Int)) r/\Dg WW r/\r.length=u.length/\vl WW r+e*WW ^ u.length=vl WW u+vl WW v/\0<=e:=by
 induction d with
 | zero =>
  intro i o c h1 h2 h3 h4 h5 h6 h7 h8
  have ei:i=v.length:=Ky
  subst ei
  have ho:=di hu (v.length:Int) Ky Ky
  rw [cE] at ho
  have er:=kh u o v.length h5 Ky h3
  have ev:(rd u (v.length:Int)+c) % 4294967296+WW*((rd u (v.length:Int)+c) / 4294967296)=rd u (v.length:Int)+c:=by rw [cE];exact Int.emod_add_mul_ediv _ _
  refine ⟨o.set v.length ((rd u (v.length:Int)+c) % 4294967296),(rd u (v.length:Int)+c) / 4294967296,?_,?_,by simpa using h3,?_,Ky⟩
  ·have ec:c % 4294967296=c:=by omega
   refine Ev.step (fun k=>by rw [cf.l0]) ?_
   refine dP Ky (bA Ky (bA Ky ?_))
   rw [er,ec,Int.toNat_natCast]
   exact aZ _
  ·have:=Dg.take_set (l:=o) (i:=v.length) (v:=(rd u (v.length:Int)+c) % 4294967296) Ky h4 Ky (by rw [cE];omega)
   rw [List.take_of_length_le (by simp;omega)] at this
   exact this
  have e3:=gx WW o v.length ((rd u (v.length:Int)+c) % 4294967296) Ky
  rw [List.take_of_length_le (by simp;omega)] at e3
  have e4:=cZ WW u v.length Ky
  rw [List.take_of_length_le Ky] at e4
  rw [List.take_length] at h8
  rw [e3,e4,hl,Int.pow_succ,Int.mul_comm (WW ^ v.length) WW]
  exact alg_r2 h8 ev
 | succ d ih =>
  intro i o c h1 h2 h3 h4 h5 h6 h7 h8
  have ho:=di hu (i:Int) Ky Ky
  have hx:=di hv (i:Int) Ky Ky
  rw [cE] at ho hx
  have er:=kh u o i h5 Ky h3
  have ev:(c+(rd u (i:Int)+rd v (i:Int))) % 4294967296+WW*((c+(rd u (i:Int)+rd v (i:Int))) / 4294967296)=c+(rd u (i:Int)+rd v (i:Int)):=by rw [cE];exact Int.emod_add_mul_ediv _ _
  obtain ⟨r,e,r1,r2⟩:=ih (i+1) (o.set i ((c+(rd u (i:Int)+rd v (i:Int))) % 4294967296)) ((c+(rd u (i:Int)+rd v (i:Int))) / 4294967296) Ky Ky (by simpa using h3) (Dg.take_set Ky h4 Ky (by rw [cE];omega))
   (by rw [gG];exact drop_tail u o i h5) Ky Ky
   (by
    rw [gx _ _ _ _ Ky,cZ WW u i Ky,cZ WW v i Ky,Int.pow_succ,Int.mul_comm (WW ^ i) WW]
    exact alg_r h8 ev)
  refine ⟨r,e,?_,r2⟩
  refine Ev.step (fun k=>by rw [cf.l0]) ?_
  rw [er,u64 (x:=rd u (i:Int)) Ky Ky,u64 (x:=rd v (i:Int)) Ky Ky,u64 (x:=rd u (i:Int)+rd v (i:Int)) Ky Ky,u64 (x:=c+(rd u (i:Int)+rd v (i:Int))) Ky Ky,fp (i:=i) Ky,Int.toNat_natCast]
  exact bA Ky (bA Ky (bA Ky (bA Ky r1)))
theorem vd {u v:List Int} (hl:u.length=v.length+1) (hn:v.length<68719476736) (hu:Dg WW u) (hv:Dg WW v) :
 ∃ r e,Ev (fun k=>cf.f k u v) r/\Dg WW r/\r.length=u.length/\vl WW r+e*WW ^ u.length=vl WW u+vl WW v/\0<=e:=by
 obtain ⟨r,e,r1,r2⟩:=ve hl hn hu hv v.length 0 u 0 Ky Ky rfl (by rw [List.take_zero];exact Dg.nil _) rfl Ky Ky (by simp [vl])
 exact ⟨r,e,by unfold cf.f;exact r1,r2⟩
theorem kd_gt {X M P top next x0 high g rest qd W:Int} (hM:(top*W+next)*P<=M) (hX:X<(high*W+x0+1)*P) (hP:0<P) (hq:qd*M<=X) (h:g*top+rest=high) (hd:0<=g) (hM0:0<=M) (hne:g*next>rest*W+x0):qd<g:=by
 rcases Int.lt_or_le qd g with h1 | h1
 ·exact h1
 exfalso
 have a1:g*M<=qd*M:=Int.mul_le_mul_of_nonneg_right h1 hM0
 have a2:g*((top*W+next)*P)<=g*M:=Int.mul_le_mul_of_nonneg_left hM hd
 have a3:g*((top*W+next)*P)=(g*(top*W+next))*P:=by grind
 have a4:(g*(top*W+next))*P<(high*W+x0+1)*P:=Ky
 have a5:=Int.lt_of_mul_lt_mul_right a4 (Int.le_of_lt hP)
 have a6:g*(top*W+next)=(high-rest)*W+g*next:=by rw [<- h];grind
 have a7:(high-rest)*W=high*W-rest*W:=by grind
 omega
theorem kd_le {X M P top next x0 high g rest qd W:Int} (hM:M<=(top*W+next+1)*P) (hM2:W*P<=M) (hX:(high*W+x0)*P<=X) (hP:0<P) (hq:X<(qd+1)*M) (h:g*top+rest=high) (hd:0<=g) (hg:g<W) (hE:g*next<=rest*W+x0):g<=qd+1:=by
 rcases Int.lt_or_le (qd+1) g with h1 | h1
 ·exfalso
  have hM0:0<=M:=by
   have:0<=W*P:=Int.mul_nonneg Ky Ky
   omega
  have a1:(qd+1)*M<=(g-1)*M:=Int.mul_le_mul_of_nonneg_right Ky hM0
  have a2:g*M<=g*((top*W+next+1)*P):=Int.mul_le_mul_of_nonneg_left hM hd
  have a3:g*((top*W+next+1)*P)=(g*(top*W+next))*P+g*P:=by grind
  have a6:g*(top*W+next)=(high-rest)*W+g*next:=by rw [<- h];grind
  have a7:(high-rest)*W=high*W-rest*W:=by grind
  have a8:(g*(top*W+next))*P<=(high*W+x0)*P:=Int.mul_le_mul_of_nonneg_right Ky Ky
  have a9:g*P<=W*P:=Int.mul_le_mul_of_nonneg_right Ky Ky
  have a10:(g-1)*M=g*M-M:=by grind
  omega
 exact h1
theorem Il {q v u:List Int} {s:Int} {nn j:Nat} {X M P top next x0 high qd:Int} (hn:j+nn<68719476736) (hnn:2<=nn) (hju:j+nn<u.length) (hx0:rd u ((j+nn-2:Nat):Int)=x0)
 (t0:0<top) (t1:top<4294967296) (n0:0<=next) (n1:next<4294967296) (b0:0<=x0) (b1:x0<4294967296)
 (hMl:(top*WW+next)*P<=M) (hMu:M<=(top*WW+next+1)*P) (hM2:WW*P<=M) (hXl:(high*WW+x0)*P<=X) (hXu:X<(high*WW+x0+1)*P) (hP:0<P) (hq:qd*M<=X) (hq2:X<(qd+1)*M) (hqW:qd<4294967296) (hq0:0<=qd) (c:Nat) :
 ∀ g rest:Int,(g-qd).toNat=c->g*top+rest=high->0<=rest->rest<4294967296->qd<=g->g<=4294967297->(g=4294967297->rest+top<4294967296) ->
 ∃ g',qd<=g'/\g'<=qd+1/\g'<4294967296/\∀ R,Ev (fun k=>aJ.j3 k q s v u (nn:Int) top next (j:Int) g') R->Ev (fun k=>aJ.l1 k q s v u (nn:Int) top next (j:Int) g rest) R:=by
 have hM0:0<=M:=by
  have:0<=WW*P:=Int.mul_nonneg (by decide) Ky
  omega
 induction c with
 | zero =>
  intro g rest h1 h2 h3 h4 h5 h6 h7
  have eg:g=qd:=Ky
  subst eg
  have hE:¬ (g*next>rest*WW+x0):=fun hne=>by
   have:=kd_gt hMl hXu hP hq h2 Ky hM0 hne
   omega
  refine ⟨g,Ky,Ky,hqW,fun R hR=>?_⟩
  have hp:=u6 (x:=g) (y:=next) ⟨Ky,hqW⟩ ⟨n0,n1⟩
  refine Ev.step (fun k=>by rw [aJ.l1]) ?_
  rw [cE] at hE
  rw [show (j:Int)+(nn:Int)=((j+nn:Nat):Int) by omega,cn (x:=((j+nn:Nat):Int)) Ky Ky,show ((j+nn:Nat):Int)-2=((j+nn-2:Nat):Int) by omega,cn (x:=((j+nn-2:Nat):Int)) Ky Ky,hx0,u64 (x:=g*next) Ky Ky,u64 (x:=rest*4294967296) Ky Ky,u64 (x:=x0) Ky Ky,C0 ⟨h3,h4⟩ ⟨b0,b1⟩,decide_eq_false hE]
  refine dP Ky (bA Ky (bA Ky ?_))
  refine Ev.step (fun k=>by rw [aJ.j2]) ?_
  exact dP Kz hR
 | succ c ih =>
  intro g rest h1 h2 h3 h4 h5 h6 h7
  have hgq:qd<g:=Ky
  have down:(g>=4294967296∨g*next>rest*WW+x0)->∃ g',qd<=g'/\g'<=qd+1/\g'<4294967296/\∀ R,Ev (fun k=>aJ.j3 k q s v u (nn:Int) top next (j:Int) g') R->Ev (fun k=>aJ.j2 k q s v u (nn:Int) top next (j:Int) g rest true) R:=by
   intro hc
   by_cases c2:rest+top>=4294967296
   ·have e:(g-1)*top+(rest+top)=high:=by rw [<- h2];grind
    have hp:=u6 (x:=g-1) (y:=next) ⟨Ky,Ky⟩ ⟨n0,n1⟩
    have hE:(g-1)*next<=(rest+top)*WW+x0:=by rw [cE];omega
    refine ⟨g-1,Ky,kd_le hMu hM2 hXl hP hq2 e Ky (by rw [cE];omega) hE,Ky,fun R hR=>?_⟩
    refine Ev.step (fun k=>by rw [aJ.j2]) ?_
    rw [u64 (x:=rest+top) Ky Ky,u64 (x:=g-1) Ky Ky]
    exact bA rfl (bA c2 hR)
   have e:(g-1)*top+(rest+top)=high:=by rw [<- h2];grind
   obtain ⟨g',g1,g2,g3,g4⟩:=ih (g-1) (rest+top) Ky e Ky Ky Ky Ky Ky
   refine ⟨g',g1,g2,g3,fun R hR=>?_⟩
   refine Ev.step (fun k=>by rw [aJ.j2]) ?_
   rw [u64 (x:=rest+top) Ky Ky,u64 (x:=g-1) Ky Ky]
   exact bA rfl (dP c2 (g4 R hR))
  by_cases c1:g>=4294967296
  ·obtain ⟨g',g1,g2,g3,g4⟩:=down (.inl c1)
   refine ⟨g',g1,g2,g3,fun R hR=>?_⟩
   refine Ev.step (fun k=>by rw [aJ.l1]) ?_
   exact bA c1 (g4 R hR)
  have hp:=u6 (x:=g) (y:=next) ⟨Ky,Ky⟩ ⟨n0,n1⟩
  by_cases c2:g*next>rest*WW+x0
  ·obtain ⟨g',g1,g2,g3,g4⟩:=down (.inr c2)
   refine ⟨g',g1,g2,g3,fun R hR=>?_⟩
   refine Ev.step (fun k=>by rw [aJ.l1]) ?_
   rw [cE] at c2
   rw [show (j:Int)+(nn:Int)=((j+nn:Nat):Int) by omega,cn (x:=((j+nn:Nat):Int)) Ky Ky,show ((j+nn:Nat):Int)-2=((j+nn-2:Nat):Int) by omega,cn (x:=((j+nn-2:Nat):Int)) Ky Ky,hx0,u64 (x:=g*next) Ky Ky,u64 (x:=rest*4294967296) Ky Ky,u64 (x:=x0) Ky Ky,C0 ⟨h3,h4⟩ ⟨b0,b1⟩,decide_eq_true c2]
   exact dP Ky (bA Ky (bA Ky (g4 R hR)))
  have hle:=kd_le hMu hM2 hXl hP hq2 h2 Ky (by rw [cE];omega) Ky
  refine ⟨g,Ky,hle,Ky,fun R hR=>?_⟩
  refine Ev.step (fun k=>by rw [aJ.l1]) ?_
  rw [cE] at c2
  rw [show (j:Int)+(nn:Int)=((j+nn:Nat):Int) by omega,cn (x:=((j+nn:Nat):Int)) Ky Ky,show ((j+nn:Nat):Int)-2=((j+nn-2:Nat):Int) by omega,cn (x:=((j+nn-2:Nat):Int)) Ky Ky,hx0,u64 (x:=g*next) Ky Ky,u64 (x:=rest*4294967296) Ky Ky,u64 (x:=x0) Ky Ky,C0 ⟨h3,h4⟩ ⟨b0,b1⟩,decide_eq_false c2]
  refine dP Ky (bA Ky (bA Ky ?_))
  refine Ev.step (fun k=>by rw [aJ.j2]) ?_
  exact dP Kz hR
theorem Jq (u:List Int) (j n:Nat) (h:j+n<=u.length):((u.take (j+n)).drop j).length=n:=by
 rw [List.length_drop,List.length_take,Nat.min_eq_left h];omega
theorem DZ (u r:List Int) (j n:Nat) (h:j+n<=u.length) (hr:r.length=n) :
 ((u.take j++r++u.drop (j+n)).take (j+n)).drop j=r/\(u.take j++r++u.drop (j+n)).take j=u.take j/\(u.take j++r++u.drop (j+n)).drop (j+n)=u.drop (j+n)/\(u.take j++r++u.drop (j+n)).drop j=r++u.drop (j+n)/\(u.take j++r++u.drop (j+n)).length=u.length:=by
 have l1:(u.take j).length=j:=by rw [List.length_take,Nat.min_eq_left Ky]
 have l2:(u.take j++r).length=j+n:=by rw [List.length_append,l1,hr]
 refine ⟨?_,?_,?_,?_,?_⟩
 ·rw [List.take_left' l2,List.drop_left' l1]
 ·rw [List.append_assoc,List.take_left' l1]
 ·rw [List.drop_left' l2]
 ·rw [List.append_assoc,List.drop_left' l1]
 rw [List.length_append,l2,List.length_drop];omega
theorem GX (u:List Int) (j n:Nat) (h:j+n<=u.length):vl WW (u.drop j)=vl WW ((u.take (j+n)).drop j)+WW ^ n*vl WW (u.drop (j+n)):=by
 have e:=gH WW (u.drop j) n (by rw [List.length_drop];omega)
 rw [List.drop_drop] at e
 rw [e,List.drop_take,Nat.add_sub_cancel_left]
theorem Im {q v u:List Int} {s top next:Int} {nn j:Nat} {X M qd g:Int} (hn:j+nn<68719476736) (hv:v.length=nn) (dv:Dg WW v) (eM:vl WW v=M) (hju:j+nn+1<=u.length) (hjq:j<q.length) (du:Dg WW u)
 (eX:vl WW (u.drop j)=X) (hz:vl WW (u.drop (j+(nn+1)))=0) (hq:qd*M<=X) (hq2:X<(qd+1)*M) (hqW:qd<4294967296) (hq0:0<=qd) (g1:qd<=g) (g2:g<=qd+1) (g3:g<4294967296) :
 ∃ u2,u2.length=u.length/\Dg WW u2/\u2.take j=u.take j/\vl WW (u2.drop j)=X-qd*M/\∀ R,Ev (fun k=>aJ.l0 k (q.set j qd) s v u2 (nn:Int) top next ((j:Int)-1)) R->Ev (fun k=>aJ.j3 k q s v u (nn:Int) top next (j:Int) g) R:=by
 have sl:=Jq u j (nn+1) hju
 have sv:=GX u j (nn+1) hju
 rw [hz,Int.mul_zero,Int.add_zero,eX] at sv
 have ds:Dg WW ((u.take (j+(nn+1))).drop j):=(du.take _).drop _
 obtain ⟨f,r,r1,r2,r3,r4⟩:=tP (u:=(u.take (j+(nn+1))).drop j) (v:=v) (g:=g) Ky Ky ds dv ⟨Ky,g3⟩
 rw [sl] at r3 r4
 rw [<- sv,eM] at r4
 have b0:=bL aE r2
 have b1:=fK aE r2
 rw [r3] at b1
 obtain ⟨p1,p2,p3,p4,p5⟩:=DZ u r j (nn+1) hju r3
 have hb2:((((j+nn:Nat):Int)+1)).toNat=j+(nn+1):=Ky
 have hsub:Ev (fun k=>cJ.f k u (j:Int) (((j+nn:Nat):Int)+1) v g) (f,u.take j++r++u.drop (j+(nn+1))):=by
  unfold cJ.f
  rw [hb2,Int.toNat_natCast]
  exact Ev.bind r1 (aZ _)
 have eqd:qd % 4294967296=qd:=Ky
 have hM1:(qd+1)*M=qd*M+M:=by grind
 have dall:∀ z:List Int,Dg WW z->Dg WW (u.take j++z++u.drop (j+(nn+1))):=fun z hz=>((du.take _).append hz).append (du.drop _)
 cases f
 ·have eg:g=qd:=by
   rcases Int.lt_or_le qd g with c | c
   ·exfalso
    have:g=qd+1:=Ky
    subst this
    simp only [Bool.false_eq_true,if_false] at r4
    omega
   omega
  subst eg
  simp only [Bool.false_eq_true,if_false,Int.add_zero] at r4
  refine ⟨_,p5,dall r r2,p2,?_,fun R hR=>?_⟩
  ·rw [p4,iA,hz,Int.mul_zero,Int.add_zero,r4]
  refine Ev.step (fun k=>by rw [aJ.j3]) ?_
  rw [show (j:Int)+(nn:Int)=((j+nn:Nat):Int) by omega,cn (x:=((j+nn:Nat):Int)) Ky Ky,cn (x:=((j+nn:Nat):Int)+1) Ky Ky,cn (x:=(j:Int)-1) Ky Ky,eqd,Int.toNat_natCast]
  exact bA Ky (bA Ky (bA Ky (Ev.bind hsub (dP Kz (bA Ky hR)))))
 simp only [if_true] at r4
 have eg:g=qd+1:=by
  rcases Int.lt_or_le qd g with c | c
  ·omega
  exfalso
  have:g=qd:=Ky
  subst this
  omega
 subst eg
 rw [hM1] at r4
 obtain ⟨z,e,z1,z2,z3,z4,z5⟩:=vd (u:=r) (v:=v) Ky Ky r2 dv
 rw [r3,eM,r4] at z4
 rw [r3] at z3
 have c0:=bL aE z2
 have c1:=fK aE z2
 rw [z3] at c1
 have hMW:M<WW ^ (nn+1):=by
  have h1:=fK aE dv
  have h2:=eV (B:=WW) (by decide) (show nn<=nn+1 by omega)
  rw [hv,eM] at h1
  omega
 have hz3:vl WW z=X-qd*M:=by
  generalize WW ^ (nn+1)=Q at *
  have he:e=1:=by
   rcases Int.lt_or_le e 1 with c | c
   ·have:e=0:=by omega
    subst this
    omega
   rcases Int.lt_or_le 1 e with c' | c'
   ·have:2*Q<=e*Q:=Int.mul_le_mul_of_nonneg_right Ky Ky
    omega
   omega
  subst he
  omega
 obtain ⟨t1,t2,t3,t4,t5⟩:=DZ u z j (nn+1) hju z3
 have hres:Ev (fun k=>df.f k (u.take j++r++u.drop (j+(nn+1))) (j:Int) (((j+nn:Nat):Int)+1) v) (u.take j++z++u.drop (j+(nn+1))):=by
  unfold df.f
  rw [hb2,Int.toNat_natCast,p1,p2,p3]
  exact Ev.bind z1 (aZ _)
 refine ⟨_,t5,dall z z2,t2,?_,fun R hR=>?_⟩
 ·rw [t4,iA,hz,Int.mul_zero,Int.add_zero,hz3]
 refine Ev.step (fun k=>by rw [aJ.j3]) ?_
 rw [show (j:Int)+(nn:Int)=((j+nn:Nat):Int) by omega,cn (x:=((j+nn:Nat):Int)) Ky Ky,cn (x:=((j+nn:Nat):Int)+1) Ky Ky,cn (x:=(j:Int)-1) Ky Ky,show qd+1-1=qd by omega,u64 (x:=qd) Ky Ky,eqd,Int.toNat_natCast]
 exact bA Ky (bA Ky (bA Ky (Ev.bind hsub (bA rfl (Ev.bind hres (bA Ky hR))))))
theorem three {u:List Int} (du:Dg WW u) (j nn:Nat) (hnn:2<=nn) (hju:j+nn+1<=u.length) (hz:vl WW (u.drop (j+(nn+1)))=0) :
 ∃ low,0<=low/\low<WW ^ (nn-2)/\vl WW (u.drop j)=low+(((rd u ((j+nn:Nat):Int))*WW+rd u ((j+nn-1:Nat):Int))*WW+rd u ((j+nn-2:Nat):Int))*WW ^ (nn-2):=by
 have e:=gH WW (u.drop j) (nn-2) (by rw [List.length_drop];omega)
 rw [List.drop_drop] at e
 have d1:Dg WW ((u.drop j).take (nn-2)):=(du.drop _).take _
 have l1:=fK aE d1
 rw [List.length_take,List.length_drop,Nat.min_eq_left Ky] at l1
 refine ⟨_,bL aE d1,l1,?_⟩
 rw [e,fj u (j+(nn-2)) Ky,vl,fj u (j+(nn-2)+1) Ky,vl,fj u (j+(nn-2)+1+1) Ky,vl]
 rw [show j+(nn-2)+1+1+1=j+(nn+1) by omega,hz,show j+(nn-2)+1+1=j+nn by omega,show j+(nn-2)+1=j+nn-1 by omega,show j+(nn-2)=j+nn-2 by omega]
 grind
theorem two {v:List Int} (dv:Dg WW v) (nn:Nat) (hnn:2<=nn) (hv:v.length=nn) :
 ∃ low,0<=low/\low<WW ^ (nn-2)/\vl WW v=low+(rd v ((nn-1:Nat):Int)*WW+rd v ((nn-2:Nat):Int))*WW ^ (nn-2):=by
 have e:=gH WW v (nn-2) Ky
 have d1:Dg WW (v.take (nn-2)):=dv.take _
 have l1:=fK aE d1
 rw [List.length_take,Nat.min_eq_left Ky] at l1
 refine ⟨_,bL aE d1,l1,?_⟩
 rw [e,fj v (nn-2) Ky,vl,fj v (nn-2+1) Ky,vl]
 rw [show nn-2+1+1=nn by omega,List.drop_eq_nil_of_le Ky,vl,show nn-2+1=nn-1 by omega]
 grind
theorem Km {ut Pj X M W qd vq N vu:Int} (h1:vu=ut+Pj*X) (h2:vu+M*((Pj*W)*vq)=N):(ut+Pj*(X-qd*M))+M*(Pj*(qd+W*vq))=N:=by grind
theorem pY {a b P:Int} (h:a*P<b*P) (hP:0<P):a<b:=Int.lt_of_mul_lt_mul_right h (Int.le_of_lt hP)
theorem dm_l0 {v:List Int} {s nn:Nat} {M top next N:Int} (hs:s<32) (hn2:2<=nn) (hv:v.length=nn) (dv:Dg WW v) (eM:vl WW v=M) (et:rd v ((nn-1:Nat):Int)=top) (en:rd v ((nn-2:Nat):Int)=next) (ht:2147483648<=top) (d:Nat) :
 ∀ (i:Nat) (q u:List Int),i=d->i+nn<=u.length->u.length<68719476736->q.length=u.length-nn->Dg WW u->Dg WW (q.drop i)->vl WW (u.drop i)<M->vl WW u+M*(WW ^ i*vl WW (q.drop i))=N ->
 ∃ q' r',Ev (fun k=>aJ.l0 k q (s:Int) v u (nn:Int) top next ((i:Int)-1)) (q',r')/\Can WW q' (N / M)/\Can WW r' (N % M / 2 ^ s):=by
 have w0:(0:Int)<WW ^ (nn-2):=iJ aE _
 have bt:=di dv ((nn-1:Nat):Int) Ky Ky
 have bn:=di dv ((nn-2:Nat):Int) Ky Ky
 rw [et,cE] at bt
 rw [en,cE] at bn
 obtain ⟨ml,ml0,ml1,hMe⟩:=two dv nn hn2 hv
 rw [et,en,eM] at hMe
 generalize hP:WW ^ (nn-2)=P at *
 have hMl:(top*WW+next)*P<=M:=Ky
 have hMu':M<(top*WW+next+1)*P:=by rw [Int.add_mul _ 1 P,Int.one_mul];omega
 have hM2:WW*P<=M:=by
  have:WW*P<=(top*WW+next)*P:=Int.mul_le_mul_of_nonneg_right (by rw [cE];omega) Ky
  omega
 have hMpos:0<M:=by
  have:0<WW*P:=Int.mul_pos aE w0
  omega
 induction d with
 | zero =>
  rintro i q u rfl h1 h2 h3 h4 h5 h6 h7
  rw [List.drop_zero] at h5 h6 h7
  rw [Int.pow_zero,Int.one_mul] at h7
  have b0:=bL aE h4
  have e1:N / M=vl WW q:=by rw [<- h7,Int.add_mul_ediv_left _ _ Ky,Int.ediv_eq_zero_of_lt b0 h6,Int.zero_add]
  have e2:N % M=vl WW u:=by rw [<- h7,Int.add_mul_emod_self_left,Int.emod_eq_of_lt b0 h6]
  obtain ⟨q',q1,q2,q3⟩:=fu (l:=q) Ky h5
  obtain ⟨x,x1,x2,x3⟩:=fu (l:=u) Ky h4
  obtain ⟨y,y1,y2,y3⟩:=pW s Ky Ky x2
  refine ⟨q',y,?_,by rw [e1];exact q2,by rw [e2];exact y2⟩
  refine Ev.step (fun k=>by rw [aJ.l0]) ?_
  exact dP Ky (Ev.bind q1 (Ev.bind x1 (Ev.bind y1 (aZ _))))
 | succ d ih =>
  rintro i q u rfl h1 h2 h3 h4 h5 h6 h7
  have u0:=di h4 (d:Int) Ky Ky
  have eX:vl WW (u.drop d)=rd u (d:Int)+WW*vl WW (u.drop (d+1)):=by rw [fj u d Ky,vl]
  have nx:=bL aE (h4.drop (d+1))
  have hXM:vl WW (u.drop d)<WW*M:=by
   have:WW*(vl WW (u.drop (d+1))+1)<=WW*M:=Int.mul_le_mul_of_nonneg_left Ky (by decide)
   rw [Int.mul_add,Int.mul_one] at this
   omega
  have hX0:=bL aE (h4.drop d)
  have hMW:M<WW ^ nn:=by
   have:=fK aE dv
   rw [hv,eM] at this
   exact this
  have hz:vl WW (u.drop (d+(nn+1)))=0:=by
   have sv:=GX u d (nn+1) Ky
   have g0:=bL aE (h4.drop (d+(nn+1)))
   have g1:=bL aE ((h4.take (d+(nn+1))).drop d)
   rcases Int.lt_or_le 0 (vl WW (u.drop (d+(nn+1)))) with c | c
   ·exfalso
    have hp:(0:Int)<WW ^ (nn+1):=iJ aE _
    have a1:WW ^ (nn+1)*1<=WW ^ (nn+1)*vl WW (u.drop (d+(nn+1))):=Int.mul_le_mul_of_nonneg_left Ky Ky
    have a2:WW*M<WW*WW ^ nn:=Int.mul_lt_mul_of_pos_left hMW aE
    rw [Int.pow_succ,Int.mul_comm (WW ^ nn) WW] at a1 sv
    omega
   omega
  obtain ⟨lo,lo0,lo1,eZ⟩:=three h4 d nn hn2 Ky hz
  rw [hP] at eZ lo1
  have b2:=di h4 ((d+nn:Nat):Int) Ky Ky
  have b1:=di h4 ((d+nn-1:Nat):Int) Ky Ky
  have b0:=di h4 ((d+nn-2:Nat):Int) Ky Ky
  rw [cE] at b2 b1 b0
  have hut:=gH WW u d Ky
  generalize hX:vl WW (u.drop d)=X at *
  generalize hx2:rd u ((d+nn:Nat):Int)=x2 at *
  generalize hx1:rd u ((d+nn-1:Nat):Int)=x1 at *
  generalize hx0:rd u ((d+nn-2:Nat):Int)=x0 at *
  have hXl:((x2*WW+x1)*WW+x0)*P<=X:=Ky
  have hXu:X<((x2*WW+x1)*WW+x0+1)*P:=by rw [Int.add_mul _ 1 P,Int.one_mul];omega
  have hq0:0<=X / M:=Int.ediv_nonneg hX0 Ky
  have hqd:=Int.mul_ediv_add_emod X M
  have hqr:=Int.emod_nonneg X (show M≠0 by omega)
  have hqs:=Int.emod_lt_of_pos X hMpos
  have hq:X / M*M<=X:=by rw [Int.mul_comm];omega
  have hq2:X<(X / M+1)*M:=by rw [Int.add_mul,Int.one_mul,Int.mul_comm];omega
  have hqW:X / M<4294967296:=Int.ediv_lt_of_lt_mul hMpos (by rw [<- cE];exact hXM)
  generalize hQ:X / M=qd at *
  have hhi:x2*WW+x1<=top*WW+next:=by
   have a1:((x2*WW+x1)*WW+x0)*P<(WW*(top*WW+next+1))*P:=by
    have:WW*M<WW*((top*WW+next+1)*P):=Int.mul_lt_mul_of_pos_left hMu' aE
    rw [Int.mul_assoc]
    omega
   have a2:=pY a1 w0
   rw [cE] at a2 ⊢
   omega
  have hh0:0<=x2*WW+x1:=by rw [cE];omega
  have hor:=C0 b2 b1
  rw [<- cE] at hor
  generalize hH:x2*WW+x1=high at *
  have d1:=Int.mul_ediv_add_emod high top
  have d2:=Int.emod_nonneg high (show top≠0 by omega)
  have d3:=Int.emod_lt_of_pos high (show 0<top by omega)
  have d0:0<=high / top:=Int.ediv_nonneg hh0 Ky
  have gq:qd<=high / top:=by
   refine Int.le_ediv_of_mul_le Ky ?_
   have a1:qd*((top*WW+next)*P)<=qd*M:=Int.mul_le_mul_of_nonneg_left hMl hq0
   have a2:(qd*(top*WW+next))*P<(high*WW+x0+1)*P:=by rw [Int.mul_assoc];omega
   have a3:=pY a2 w0
   have a4:qd*(top*WW+next)=(qd*top)*WW+qd*next:=by grind
   have a5:0<=qd*next:=Int.mul_nonneg hq0 bn.1
   rw [cE] at a3 a4
   omega
  have gW:high / top<=4294967297/\(high / top=4294967297->high % top+top<4294967296):=by
   have a1:top*(high / top)<=top*WW+next:=Ky
   constructor
   ·rcases Int.lt_or_le 4294967297 (high / top) with c | c
    ·exfalso
     have:top*4294967298<=top*(high / top):=Int.mul_le_mul_of_nonneg_left Ky Ky
     rw [cE] at a1
     omega
    exact c
   intro c
   rw [c] at d1
   rw [cE] at hhi
   omega
  obtain ⟨g,g1,g2,g3,g4⟩:=Il (q:=q) (v:=v) (u:=u) (s:=(s:Int)) (nn:=nn) (j:=d) (X:=X) (M:=M) (P:=P) (top:=top) (next:=next) (x0:=x0) (high:=high) (qd:=qd) Ky hn2 Ky hx0 Ky bt.2 bn.1 bn.2 b0.1 b0.2 hMl Ky hM2 hXl hXu w0 hq hq2 hqW hq0 _ (high / top) (high % top) rfl (by rw [Int.mul_comm];exact d1) d2 Ky gq gW.1 gW.2
  obtain ⟨u2,v1,v2,v3,v4,v5⟩:=Im (q:=q) (v:=v) (u:=u) (s:=(s:Int)) (top:=top) (next:=next) (nn:=nn) (j:=d) (X:=X) (M:=M) (qd:=qd) (g:=g) Ky hv dv eM Ky Ky h4 hX hz hq hq2 hqW hq0 g1 g2 g3
  have hu2:=gH WW u2 d Ky
  rw [v3,v4] at hu2
  obtain ⟨q',r',e1,e2⟩:=ih d (q.set d qd) u2 rfl Ky Ky (by rw [List.length_set,v1];exact h3) v2
   (by rw [fe _ _ _ Ky];exact Dg.mk hq0 (by rw [cE];exact hqW) h5)
   (by rw [v4];rw [Int.add_mul,Int.one_mul] at hq2;omega)
   (by
    rw [fe _ _ _ Ky,vl,hu2]
    rw [Int.pow_succ] at h7
    exact Km hut h7)
  refine ⟨q',r',?_,e2⟩
  refine Ev.step (fun k=>by rw [aJ.l0]) ?_
  have hgu:high / top<18446744073709551616:=Ky
  have fin:=g4 _ (v5 _ e1)
  rw [show (((d+1:Nat):Int)-1)=(d:Int) by omega,show (d:Int)+(nn:Int)=((d+nn:Nat):Int) by omega,cn (x:=((d+nn:Nat):Int)) Ky Ky,show ((d+nn:Nat):Int)-1=((d+nn-1:Nat):Int) by omega,cn (x:=((d+nn-1:Nat):Int)) Ky Ky,hx2,hx1,u64 (x:=x2) Ky Ky,u64 (x:=x1) Ky Ky,u64 (x:=x2*4294967296) Ky Ky,<- cE,hor,fi hh0,fq hh0,u64 (x:=high / top) d0 hgu]
  clear hor
  exact bA Ky (bA Ky (bA Ky (bA Ky (bA Ky (dP Ky fin)))))
theorem Iu {t:List Int} {n:Nat} (h:t.length<=n) (dt:Dg WW t):(jK (List.replicate n 0) t).length=n/\Dg WW (jK (List.replicate n 0) t)/\vl WW (jK (List.replicate n 0) t)=vl WW t:=by
 have e:jK (List.replicate n 0) t=t++List.replicate (n-t.length) 0:=by
  unfold jK
  rw [List.length_replicate,Nat.min_eq_left h,List.take_length,List.drop_replicate]
 rw [e]
 refine ⟨by simp;omega,dt.append (Dg.rep aE _),?_⟩
 rw [iA,xN,Int.mul_zero,Int.add_zero]
theorem Gy {s:Nat} (h:s<=31):(2:Int) ^ s<=2147483648:=by
 have h2:(2:Int) ^ s<=2 ^ 31:=by
  have:2 ^ s<=2 ^ 31:=Nat.pow_le_pow_right (by decide) h
  exact_mod_cast this
 exact Int.le_trans h2 (by decide)
theorem normed {b:List Int} {m:Int} {L:Nat} (hb:Can WW b m) (hp:0<b.length) (h1:rd b ((b.length:Int)-1)<2 ^ L) (h2:2 ^ (L-1)<=rd b ((b.length:Int)-1)) (hL:1<=L) (hL2:L<=32) :
 m*2 ^ (32-L)<WW ^ b.length/\2147483648*WW ^ (b.length-1)<=m*2 ^ (32-L):=by
 have lv:=qZ (a:=b) hp
 rw [hb.2.2] at lv
 have hd:=hb.1.take (b.length-1)
 have l0:=bL aE hd
 have l1:=fK aE hd
 rw [List.length_take,Nat.min_eq_left Ky] at l1
 have hP:(0:Int)<WW ^ (b.length-1):=iJ aE _
 have hs:=two_pos (32-L)
 have e1:WW ^ b.length=(2 ^ L*WW ^ (b.length-1))*2 ^ (32-L):=by
  have:b.length=(b.length-1)+1:=Ky
  rw [this,Int.pow_succ,Nat.add_sub_cancel,Int.mul_comm (2 ^ L),Int.mul_assoc,<- Int.pow_add,show L+(32-L)=32 by omega];rfl
 have e2:2147483648*WW ^ (b.length-1)=(2 ^ (L-1)*WW ^ (b.length-1))*2 ^ (32-L):=by
  rw [Int.mul_comm (2 ^ (L-1)),Int.mul_assoc,<- Int.pow_add,show L-1+(32-L)=31 by omega,Int.mul_comm];rfl
 generalize rd b ((b.length:Int)-1)=x at *
 have m1:(x+1)*WW ^ (b.length-1)<=2 ^ L*WW ^ (b.length-1):=Int.mul_le_mul_of_nonneg_right Ky Ky
 have m2:2 ^ (L-1)*WW ^ (b.length-1)<=x*WW ^ (b.length-1):=Int.mul_le_mul_of_nonneg_right h2 Ky
 rw [Int.add_mul] at m1
 rw [e1,e2]
 exact ⟨Int.mul_lt_mul_of_pos_right Ky hs,Int.mul_le_mul_of_nonneg_right Ky Ky⟩
theorem k8 {a b:List Int} {n m:Int} (hn:a.length<17179869184) (ha:Can WW a n) (hb:Can WW b m) (hm:0<m) :
 ∃ q r,Ev (fun k=>aJ.f k a b) (q,r)/\Can WW q (n / m)/\Can WW r (n % m):=by
 have n0:=ha.fH aE
 have lb:0<b.length:=by
  rcases Nat.eq_zero_or_pos b.length with c | c
  ·have:=(hb.iV aE).1 c
   omega
  exact c
 have hc:=pX Ky ha hb
 by_cases c1:n<m
 ·have e:dA n m = -1:=by unfold dA;rw [if_pos c1]
  rw [e] at hc
  refine ⟨[],a,?_,?_,?_⟩
  ·unfold aJ.f
   refine Ev.bind hc (bA Ky (bA (by simp;omega) ?_))
   exact aZ _
  ·rw [Int.ediv_eq_zero_of_lt n0 c1];exact Can.zero _
  rw [Int.emod_eq_of_lt n0 c1];exact ha
 have hcm:¬ dA n m<0:=by unfold dA;rw [if_neg c1];split<;>omega
 have hba:b.length<=a.length:=kx ha hb Ky
 have bx:=di hb.1 ((b.length:Int)-1) Ky Ky
 have bz:=hb.2.1.rd lb
 rw [cE] at bx
 by_cases c2:b.length=1
 ·have e1:m=rd b 0:=by
   have:=qZ (a:=b) lb
   rw [hb.2.2,c2] at this
   simpa [vl] using this
  rw [c2] at bx
  have bx':0<=m/\m<4294967296:=by rw [e1];exact bx
  obtain ⟨q,q1,q2,q3⟩:=vg Ky ha (K:=m) ⟨Ky,bx'.2⟩
  have r0:=Int.emod_nonneg n (show m≠0 by omega)
  have r1:=Int.emod_lt_of_pos n hm
  obtain ⟨r,r2,r3⟩:=gA (a:=n % m) r0 Ky
  refine ⟨q,r,?_,q2,r3⟩
  unfold aJ.f
  refine Ev.bind hc (dP hcm (bA Ky (bA Ky ?_)))
  rw [<- e1]
  refine Ev.bind q1 ?_
  rw [u64 (x:=n % m) Ky Ky]
  exact Ev.bind r2 (aZ _)
 obtain ⟨L,z1,z2,z3,z4⟩:=Es bx.1 bx.2
 obtain ⟨z5,z6⟩:=z4 bz
 obtain ⟨M1,M2⟩:=normed hb lb z3 z5 z6 z2
 have hs:=two_pos (32-L)
 have hs31:=Gy (s:=32-L) Ky
 obtain ⟨v,v1,v2,v3⟩:=vj (32-L) Ky hb
 obtain ⟨t,t1,t2,t3⟩:=vj (32-L) Ky ha
 have hvl:v.length=b.length:=by
  have h1:=v2.fZ bE M1
  have h2:WW ^ (b.length-1)<=m*2 ^ (32-L):=by
   have:(0:Int)<WW ^ (b.length-1):=iJ aE _
   omega
  have h3:=v2.len_ge bE h2
  omega
 have htop:2147483648<=rd v ((b.length-1:Nat):Int):=by
  have lv:=qZ (a:=v) Ky
  rw [v2.2.2,hvl,show (b.length:Int)-1=((b.length-1:Nat):Int) by omega] at lv
  have hd:=v2.1.take (b.length-1)
  have l1:=fK aE hd
  rw [List.length_take,Nat.min_eq_left Ky] at l1
  have hP:(0:Int)<WW ^ (b.length-1):=iJ aE _
  have h3:2147483648*WW ^ (b.length-1)<(rd v ((b.length-1:Nat):Int)+1)*WW ^ (b.length-1):=by
   rw [Int.add_mul];omega
  have:=pY h3 hP
  omega
 obtain ⟨u1,u2,u3⟩:=Iu (t:=t) (n:=a.length+1) Ky t2.1
 generalize hu:jK (List.replicate (a.length+1) 0) t=u at *
 rw [t2.2.2] at u3
 have htl:=di v2.1 ((b.length-1:Nat):Int) Ky Ky
 have hnl:=di v2.1 ((b.length-2:Nat):Int) Ky Ky
 rw [cE] at htl hnl
 have hlow:vl WW (u.drop (a.length+1-b.length))<m*2 ^ (32-L):=by
  rcases Int.lt_or_le (vl WW (u.drop (a.length+1-b.length))) (m*2 ^ (32-L)) with c | c
  ·exact c
  exfalso
  have hd:=gH WW u (a.length+1-b.length) Ky
  rw [u3] at hd
  have l0:=bL aE (u2.take (a.length+1-b.length))
  have hPi:(0:Int)<WW ^ (a.length+1-b.length):=iJ aE _
  have a1:WW ^ (a.length+1-b.length)*(2147483648*WW ^ (b.length-1))<=WW ^ (a.length+1-b.length)*vl WW (u.drop (a.length+1-b.length)):=Int.mul_le_mul_of_nonneg_left Ky Ky
  have a2:WW ^ (a.length+1-b.length)*(2147483648*WW ^ (b.length-1))=2147483648*WW ^ a.length:=by
   rw [Int.mul_left_comm,<- Int.pow_add,show a.length+1-b.length+(b.length-1)=a.length by omega]
  have a3:n*2 ^ (32-L)<WW ^ a.length*2 ^ (32-L):=Int.mul_lt_mul_of_pos_right (ha.lt aE) hs
  have hPa:(0:Int)<WW ^ a.length:=iJ aE _
  have a4:WW ^ a.length*2 ^ (32-L)<=WW ^ a.length*2147483648:=Int.mul_le_mul_of_nonneg_left hs31 Ky
  omega
 obtain ⟨q,r,r1,r2,r3⟩:=dm_l0 (s:=32-L) (nn:=b.length) (v:=v) (N:=n*2 ^ (32-L)) Ky Ky hvl v2.1 v2.2.2 rfl rfl htop (a.length+1-b.length) (a.length+1-b.length) (List.replicate (a.length+1-b.length) 0) u rfl Ky Ky (by rw [List.length_replicate,u1]) u2
  (by rw [List.drop_eq_nil_of_le Kz];exact Dg.nil _) hlow (by rw [List.drop_eq_nil_of_le Kz,vl,Int.mul_zero,Int.mul_zero,Int.add_zero];exact u3)
 rw [Int.mul_ediv_mul_of_pos_left _ _ hs] at r2
 rw [Int.mul_comm n,Int.mul_comm m,Int.mul_emod_mul_of_pos _ _ hs,Int.mul_ediv_cancel_left _ Ky] at r3
 refine ⟨q,r,?_,r2,r3⟩
 unfold aJ.f
 refine Ev.bind hc (dP hcm (dP Ky ?_))
 rw [cn (x:=(b.length:Int)-1) Ky Ky,cn (x:=(a.length:Int)+1) Ky Ky]
 refine bA Ky (bA Ky (kB z1 (Ev.bind v1 (bA Ky (bA Ky (kB rfl (Ev.bind t1 ?_)))))))
 rw [show ((a.length:Int)+1).toNat=a.length+1 by omega,hu,List.length_replicate,hvl,show ((a.length+1:Nat):Int)-(b.length:Int)=((a.length+1-b.length:Nat):Int) by omega,cn (x:=((a.length+1-b.length:Nat):Int)) Ky Ky,cn (x:=((a.length+1-b.length:Nat):Int)-1) Ky Ky,show (b.length:Int)-1=((b.length-1:Nat):Int) by omega,show (b.length:Int)-2=((b.length-2:Nat):Int) by omega,cn (x:=((b.length-1:Nat):Int)) Ky Ky,cn (x:=((b.length-2:Nat):Int)) Ky Ky,u64 (x:=rd v ((b.length-1:Nat):Int)) Ky Ky,u64 (x:=rd v ((b.length-2:Nat):Int)) Ky Ky,Int.toNat_natCast]
 exact bA Ky (bA Ky (bA Ky (bA Ky (bA Ky (bA Ky r1)))))
theorem Ir {l:List Int} (h:∀ x∈l,(Lit.int .u32 x).wf=true):Dg WW l:=by
 intro x hx
 have h1:=h x hx
 have h2:IntKind.u32.min=0:=rfl
 have h3:IntKind.u32.max=4294967295:=rfl
 simp only [Lit.wf,Bool.and_eq_true,decide_eq_true_eq,h2,h3] at h1
 rw [cE]
 omega
theorem Ac {a:List Int} (hl:a.length<=4) (ha:Dg RR a) (d:Nat):∀ (i:Nat) (x:Int),i=d->i<=a.length->x=vl RR (a.drop i)->Ev (fun k=>aO.l0 k a x ((i:Int)-1)) (vl RR a,true):=by
 have bd:∀ i:Nat,i<=a.length->0<=vl RR (a.drop i)/\vl RR (a.drop i)<10000000000000000:=by
  intro i hi
  have h1:=fK aX (ha.drop i)
  have h2:=eV (B:=RR) (by decide) (show (a.drop i).length<=4 by rw [List.length_drop];omega)
  have h3:RR ^ 4=10000000000000000:=by decide
  exact ⟨bL aX (ha.drop i),Ky⟩
 induction d with
 | zero =>
  rintro i x rfl h1 h2
  rw [List.drop_zero] at h2
  subst h2
  refine Ev.step (fun k=>by rw [aO.l0]) ?_
  exact dP Ky (aZ _)
 | succ d ih =>
  rintro i x rfl h1 h2
  have hx:=di ha (d:Int) Ky Ky
  rw [dJ] at hx
  have b1:=bd (d+1) Ky
  have b0:=bd d Ky
  have e:x*10000+rd a (d:Int)=vl RR (a.drop d):=by
   rw [h2,fj a d Ky,vl,dJ];omega
  have next:=ih d (x*10000+rd a (d:Int)) rfl Ky e
  refine Ev.step (fun k=>by rw [aO.l0]) ?_
  rw [show (((d+1:Nat):Int)-1)=(d:Int) by omega,cn (x:=x*10000) Ky Ky,cn (x:=x*10000+rd a (d:Int)) Ky Ky,cn (x:=(d:Int)-1) Ky Ky]
  exact bA Ky (bA Ky (bA Ky next))
theorem kI {a:List Int} {n:Int} (hl:a.length<4611686018427387904) (ha:Can RR a n):(a.length<=4->Ev (fun k=>aO.f k a) (n,true))/\(4<a.length->Ev (fun k=>aO.f k a) (0,false)):=by
 constructor
 ·intro h
  have:=Ac h ha.1 a.length a.length 0 rfl (Nat.le_refl _) (by rw [List.drop_length];rfl)
  rw [ha.2.2] at this
  unfold aO.f
  rw [cn (x:=(a.length:Int)-1) Ky Ky]
  exact dP Ky this
 intro h
 unfold aO.f
 exact bA Ky (aZ _)
theorem BB {r b:List Int} {x m:Int} (hr:r.length<34359738368) (hb:b.length<34359738368) (cr:Can RR r x) (cb:Can RR b m) (hm:0<m) (hx:x<m*10000) (c:Nat):∀ q:Int,(10000-q).toNat<=c->0<=q->q<=9999->m*q<=x->Ev (fun k=>aq.l3 k r b q) (x / m):=by
 have fin:∀ q:Int,0<=q->m*q<=x->x<m*(q+1)->x / m=q:=by
  intro q h0 h1 h2
  have d1:=Int.mul_ediv_add_emod x m
  have d2:=Int.emod_nonneg x (show m≠0 by omega)
  have d3:=Int.emod_lt_of_pos x hm
  have l1:m*q<m*(x / m+1):=by rw [Int.mul_add];omega
  have l2:m*(x / m)<m*(q+1):=Ky
  have l3:=Int.lt_of_mul_lt_mul_left l1 (Int.le_of_lt hm)
  have l4:=Int.lt_of_mul_lt_mul_left l2 (Int.le_of_lt hm)
  omega
 induction c with
 | zero=>intro q h1 h2 h3 h4;omega
 | succ c ih =>
  intro q h1 h2 h3 h4
  refine Ev.step (fun k=>by rw [aq.l3]) ?_
  rw [cn (x:=q+1) Ky Ky]
  by_cases c1:q+1<10000
  ·obtain ⟨s,s1,s2,s3⟩:=jf (k0:=q+1) (c0:=0) Ky cb ⟨Ky,Ky⟩ ⟨Ky,Ky⟩
   rw [Int.add_zero] at s2
   have k1:=dK Ky s2 cr
   by_cases c2:m*(q+1)<=x
   ·refine bA c1 (Ev.bind s1 (Ev.bind k1 (bA ?_ (ih (q+1) Ky Ky Ky c2))))
    unfold dA;split<;>(try split)<;>omega
   rw [fin q h2 h4 Ky]
   refine bA c1 (Ev.bind s1 (Ev.bind k1 (dP ?_ (aZ _))))
   unfold dA;rw [if_neg Ky,if_neg Ky];omega
  have e:q=9999:=Ky
  subst e
  rw [fin 9999 h2 h4 Ky]
  exact dP c1 (aZ _)
theorem Io {r b:List Int} {x m:Int} (hr:r.length<34359738368) (hb:b.length<34359738368) (cr:Can RR r x) (cb:Can RR b m) (hm:0<m) (hx:x<m*10000) (c:Nat):∀ q:Int,q.toNat<=c->0<=q->q<=9999->Ev (fun k=>aq.l2 k r b q) (x / m):=by
 have x0:=cr.fH aX
 induction c with
 | zero =>
  intro q h1 h2 h3
  have e:q=0:=Ky
  subst e
  obtain ⟨s,s1,s2,s3⟩:=jf (k0:=0) (c0:=0) Ky cb ⟨Ky,Ky⟩ ⟨Ky,Ky⟩
  rw [Int.add_zero,Int.mul_zero] at s2
  have k1:=dK Ky s2 cr
  refine Ev.step (fun k=>by rw [aq.l2]) ?_
  refine Ev.bind s1 (Ev.bind k1 (dP ?_ (BB hr hb cr cb hm hx _ 0 (Nat.le_refl _) Ky Ky Ky)))
  unfold dA;split<;>(try split)<;>omega
 | succ c ih =>
  intro q h1 h2 h3
  obtain ⟨s,s1,s2,s3⟩:=jf (k0:=q) (c0:=0) Ky cb ⟨Ky,Ky⟩ ⟨Ky,Ky⟩
  rw [Int.add_zero] at s2
  have k1:=dK Ky s2 cr
  refine Ev.step (fun k=>by rw [aq.l2]) ?_
  rw [cn (x:=q-1) Ky Ky]
  by_cases c2:m*q<=x
  ·refine Ev.bind s1 (Ev.bind k1 (dP ?_ (BB hr hb cr cb hm hx _ q (Nat.le_refl _) h2 h3 c2)))
   unfold dA;split<;>(try split)<;>omega
  have hq:q≠0:=fun h=>by rw [h,Int.mul_zero] at c2;omega
  refine Ev.bind s1 (Ev.bind k1 (bA ?_ (ih (q-1) Ky Ky Ky)))
  unfold dA;rw [if_neg Ky,if_neg Ky];omega
theorem BC {r b:List Int} {x m t low:Int} (hr:r.length<34359738368) (hb:b.length<34359738368) (cr:Can RR r x) (cb:Can RR b m) (hm:0<m) (hx:x<m*10000) (ht:0<=t/\t<4611686018427387904) (hl:0<low):Ev (fun k=>aq.j2 k r b t low) (x / m):=by
 have q0:0<=t / low:=Int.ediv_nonneg ht.1 Ky
 have q1:t / low<=t:=Int.ediv_le_self _ ht.1
 refine Ev.step (fun k=>by rw [aq.j2]) ?_
 rw [fi ht.1,cn (x:=t / low) Ky Ky]
 refine dP Ky (Io hr hb cr cb hm hx _ _ (Nat.le_refl _) ?_ ?_)
 ·unfold mn;split<;>omega
 unfold mn;split<;>omega
theorem Ip {r b:List Int} {x m t:Int} (hr:r.length<34359738368) (hb:b.length<34359738368) (cr:Can RR r x) (cb:Can RR b m) (hm:0<m) (hx:x<m*10000) (ht:0<=t/\t<4611686018427387904):Ev (fun k=>aq.l1 k r b (b.length:Int) t 0 ((b.length:Int)-1)) (x / m):=by
 have lb:b.length≠0:=fun h=>by have:=(cb.iV aX).1 h;omega
 have h1:=di cb.1 ((b.length:Int)-1) Ky Ky
 have z1:=cb.2.1.rd Ky
 rw [dJ] at h1
 by_cases c:b.length=1
 ·rw [c] at h1 z1
  have e0:((1:Nat):Int)-1=0:=Ky
  rw [e0] at h1 z1
  have hj:=BC hr hb cr cb hm hx ht (low:=rd b 0) Ky
  have em:mx 0 (wrap64 (((1:Nat):Int)-2))=0:=by rw [cn Ky Ky];unfold mx;split<;>omega
  refine Ev.step (fun k=>by rw [aq.l1]) ?_
  rw [c,em,e0,cn (x:=0*10000) Ky Ky,cn (x:=0*10000+rd b 0) Ky Ky,cn (x:=0-1) Ky Ky]
  refine bA Ky (bA Ky (bA Ky ?_))
  refine Ev.step (fun k=>by rw [aq.l1]) ?_
  rw [em]
  exact dP Ky (bA Ky (bA Ky hj))
 have h2:=di cb.1 ((b.length:Int)-2) Ky Ky
 rw [dJ] at h2
 have em:mx 0 (wrap64 ((b.length:Int)-2))=(b.length:Int)-2:=by rw [cn Ky Ky];unfold mx;split<;>omega
 have hj:=BC hr hb cr cb hm hx ht (low:=(0*10000+rd b ((b.length:Int)-1))*10000+rd b ((b.length:Int)-2)) Ky
 refine Ev.step (fun k=>by rw [aq.l1]) ?_
 rw [em,cn (x:=0*10000) Ky Ky,cn (x:=0*10000+rd b ((b.length:Int)-1)) Ky Ky,cn (x:=(b.length:Int)-1-1) Ky Ky,show (b.length:Int)-1-1=(b.length:Int)-2 by omega]
 refine bA Ky (bA Ky (bA Ky ?_))
 refine Ev.step (fun k=>by rw [aq.l1]) ?_
 rw [em,cn (x:=(0*10000+rd b ((b.length:Int)-1))*10000) Ky Ky,cn (x:=(0*10000+rd b ((b.length:Int)-1))*10000+rd b ((b.length:Int)-2)) Ky Ky,cn (x:=(b.length:Int)-2-1) Ky Ky]
 refine bA Ky (bA Ky (bA Ky ?_))
 refine Ev.step (fun k=>by rw [aq.l1]) ?_
 rw [em]
 exact dP Ky (dP Ky hj)
theorem Iq {r b:List Int} {x m:Int} (hr:r.length<34359738368) (hb:b.length<34359738368) (cr:Can RR r x) (cb:Can RR b m) (hm:0<m) (hx:x<m*10000) (c:Nat):∀ (t i:Int),(i+1-mx 0 ((b.length:Int)-2)).toNat=c->-1<=i->i<=b.length->0<=t->t<10000 ^ (3-c)->c<=3->Ev (fun k=>aq.l0 k r b (b.length:Int) t 0 i) (x / m):=by
 have em:wrap64 ((b.length:Int)-2)=(b.length:Int)-2:=by rw [cn Ky Ky]
 have hlo:0<=mx 0 ((b.length:Int)-2):=by unfold mx;split<;>omega
 induction c with
 | zero =>
  intro t i h1 h2 h3 h4 h5 h6
  have:=Ip hr hb cr cb hm hx (t:=t) ⟨h4,Int.lt_trans h5 (by decide)⟩
  refine Ev.step (fun k=>by rw [aq.l0]) ?_
  rw [em,cn (x:=(b.length:Int)-1) Ky Ky]
  exact dP Ky this
 | succ c ih =>
  intro t i h1 h2 h3 h4 h5 h6
  have hp:(10000:Int) ^ (3-(c+1))*10000=10000 ^ (3-c):=by
   rw [<- Int.pow_succ];congr 1;omega
  have hq:(10000:Int) ^ (3-c)<=10000 ^ 3:=eV (by decide) Ky
  have hq3:(10000:Int) ^ 3=1000000000000:=by decide
  refine Ev.step (fun k=>by rw [aq.l0]) ?_
  rw [em,cn (x:=t*10000) Ky Ky,cn (x:=i-1) Ky Ky]
  refine bA Ky ?_
  by_cases c1:i<(r.length:Int)
  ·have hx':=di cr.1 i Ky Ky
   rw [dJ] at hx'
   rw [cn (x:=t*10000+rd r i) Ky Ky]
   exact bA c1 (bA Ky (ih (t*10000+rd r i) (i-1) Ky Ky Ky Ky Ky Ky))
  exact dP c1 (ih (t*10000) (i-1) Ky Ky Ky Ky Ky Ky)
theorem CE {r b:List Int} {x m:Int} (hr:r.length<34359738368) (hb:b.length<34359738368) (cr:Can RR r x) (cb:Can RR b m) (hm:0<m) (hx:x<m*10000):Ev (fun k=>aq.f k r b) (x / m):=by
 unfold aq.f
 have hlo:(((b.length:Int)+1-mx 0 ((b.length:Int)-2)).toNat)<=3:=by unfold mx;split<;>omega
 exact Iq hr hb cr cb hm hx _ 0 _ rfl Ky (Int.le_refl _) Ky (Int.pow_pos (by decide)) hlo
theorem IP {x m q d a R va:Int} (h:x+m*q=va):(x*R+a-m*d)+m*(d+R*q)=a+R*va:=by grind
theorem Jy {a b:List Int} {n m:Int} (hn:a.length<17179869184) (hb:b.length<17179869184) (ha:Can RR a n) (cb:Can RR b m) (hm:0<m) (d:Nat):∀ (i:Nat) (q r:List Int) (x:Int),i=d->i<=a.length->q.length=a.length->Dg RR (q.drop i)->Can RR r x->x<m->x+m*vl RR (q.drop i)=vl RR (a.drop i)->(∀ j:Nat,j<i->rd q (j:Int)=0) ->
 ∃ q' r',Ev (fun k=>aG.l0 k a b q r ((i:Int)-1)) (q',r')/\Can RR q' (n / m)/\Can RR r' (n % m)/\q'.length<=a.length:=by
 induction d with
 | zero =>
  rintro i q r x rfl h1 h2 h3 h4 h5 h6 h7
  rw [List.drop_zero,List.drop_zero,ha.2.2] at h6
  rw [List.drop_zero] at h3
  have x0:=h4.fH aX
  obtain ⟨t,t1,t2,t3⟩:=lG (l:=q) Ky h3
  have e1:n / m=vl RR q:=by rw [<- h6,Int.add_mul_ediv_left _ _ Ky,Int.ediv_eq_zero_of_lt x0 h5,Int.zero_add]
  have e2:n % m=x:=by rw [<- h6,Int.add_mul_emod_self_left,Int.emod_eq_of_lt x0 h5]
  refine ⟨t,r,?_,by rw [e1];exact t2,by rw [e2];exact h4,Ky⟩
  refine Ev.step (fun k=>by rw [aG.l0]) ?_
  exact dP Ky (Ev.bind t1 (aZ _))
 | succ d ih =>
  rintro i q r x rfl h1 h2 h3 h4 h5 h6 h7
  have hx:=di ha.1 (d:Int) Ky Ky
  rw [dJ] at hx
  have x0:=h4.fH aX
  have lr:=jH cb h4 Ky
  obtain ⟨t,t1,t2,t3⟩:=jf (k0:=10000) (c0:=rd a (d:Int)) Ky h4 ⟨Ky,Ky⟩ ⟨hx.1,Ky⟩
  have k1:=dK Ky t2 cb
  by_cases c1:x*10000+rd a (d:Int)<m
  ·obtain ⟨q',r',e1,e2⟩:=ih d q t (x*10000+rd a (d:Int)) rfl Ky h2
    (by rw [fj q d Ky];exact Dg.mk (by rw [h7 d Ky];omega) (by rw [h7 d Ky];decide) h3) t2 c1
    (by
     have:=IP (R:=RR) (a:=rd a (d:Int)) (d:=0) h6
     rw [fj q d Ky,fj a d Ky,vl,vl,h7 d Ky]
     rw [Int.mul_zero,Int.sub_zero] at this
     exact this) (fun j hj=>h7 j Ky)
   refine ⟨q',r',?_,e2⟩
   refine Ev.step (fun k=>by rw [aG.l0]) ?_
   rw [show (((d+1:Nat):Int)-1)=(d:Int) by omega,cn (x:=(d:Int)-1) Ky Ky]
   refine bA Ky (bA Ky (bA Ky (Ev.bind t1 (Ev.bind k1 (bA ?_ e1)))))
   unfold dA;rw [if_pos c1];omega
  have d1:=Int.mul_ediv_add_emod (x*10000+rd a (d:Int)) m
  have d2:=Int.emod_nonneg (x*10000+rd a (d:Int)) (show m≠0 by omega)
  have d3:=Int.emod_lt_of_pos (x*10000+rd a (d:Int)) hm
  have hg:=CE (r:=t) (b:=b) Ky Ky t2 cb hm Ky
  have g0:0<=(x*10000+rd a (d:Int)) / m:=Int.ediv_nonneg Ky Ky
  have g1:(x*10000+rd a (d:Int)) / m<10000:=Int.ediv_lt_of_lt_mul hm Ky
  generalize hG:(x*10000+rd a (d:Int)) / m=g at *
  obtain ⟨s,s1,s2,s3⟩:=jf (k0:=g) (c0:=0) Ky cb ⟨Ky,Ky⟩ ⟨Ky,Ky⟩
  rw [Int.add_zero] at s2
  obtain ⟨y,y1,y2,y3⟩:=Ae Ky t2 s2 Ky
  have hs:=xc q (d:Int) g Ky
  rw [Int.toNat_natCast] at hs
  obtain ⟨q',r',e1,e2⟩:=ih d (q.set d g) y (x*10000+rd a (d:Int)-m*g) rfl Ky (by simpa using h2)
   (by rw [fe _ _ _ Ky];exact Dg.mk g0 (by rw [dJ];exact g1) h3) y2 Ky
   (by
    rw [fe _ _ _ Ky,fj a d Ky,vl,vl]
    exact IP h6)
   (fun j hj=>by
    have:=Ft q (d:Int) (j:Int) g Ky
    rw [Int.toNat_natCast] at this
    rw [this]
    exact h7 j Ky)
  refine ⟨q',r',?_,e2⟩
  refine Ev.step (fun k=>by rw [aG.l0]) ?_
  rw [show (((d+1:Nat):Int)-1)=(d:Int) by omega,cn (x:=(d:Int)-1) Ky Ky,Int.toNat_natCast]
  refine bA Ky (bA Ky (bA Ky (Ev.bind t1 (Ev.bind k1 (dP ?_ (Ev.bind hg (bA Ky (kB rfl ?_))))))))
  ·unfold dA;rw [if_neg c1];split<;>omega
  rw [hs]
  exact Ev.bind s1 (Ev.bind y1 e1)
theorem mq {a:Int} (h0:0<=a) (h1:a<100000000000000000):∃ r,Ev (fun k=>aP.f k a) r/\Can RR r a:=by
 by_cases c:a<10000000000000
 ·exact Hf h0 c
 obtain ⟨r,h2,h3⟩:=Ag a (a / 10000).toNat [a % 10000] (a / 10000) Ky Ky (by simp;omega) (Dg.mk Ky (by rw [dJ];omega) (Dg.nil _)) (fun h=>Ky) (by
  show a % 10000+RR*0+a / 10000*RR ^ 1=a
  rw [dJ];omega)
 refine ⟨r,?_,h3⟩
 refine Ev.congr (fun k=>by rw [aP.f]) ?_
 refine Ev.step (fun k=>by rw [aP.l0]) ?_
 rw [fq h0,fi h0,cn (x:=a / 10000) Ky Ky]
 exact bA Ky (bA Kz h2)
theorem tk {a b:List Int} {n m:Int} (hn:a.length<1073741824) (hb:b.length<1073741824) (ha:Can RR a n) (cb:Can RR b m) (hm:0<m) :
 ∃ q r,Ev (fun k=>aG.f k a b) (q,r)/\Can RR q (n / m)/\Can RR r (n % m)/\q.length<1073741824/\r.length<1073741824:=by
 have n0:=ha.fH aX
 have hc:=dK Ky ha cb
 have r0:=Int.emod_nonneg n (show m≠0 by omega)
 have r1:=Int.emod_lt_of_pos n hm
 have fin:∀ q r,Can RR q (n / m)->Can RR r (n % m)->q.length<1073741824/\r.length<1073741824:=by
  intro q r hq hr
  have l1:=jH ha hq (Int.ediv_le_self _ n0)
  have l2:=jH cb hr Ky
  omega
 have key:∃ q r,Ev (fun k=>aG.f k a b) (q,r)/\Can RR q (n / m)/\Can RR r (n % m):=by
  by_cases c1:n<m
  ·refine ⟨[],a,?_,by rw [Int.ediv_eq_zero_of_lt n0 c1];exact Can.zero _,by rw [Int.emod_eq_of_lt n0 c1];exact ha⟩
   unfold aG.f
   refine Ev.bind hc (bA ?_ (aZ _))
   unfold dA;rw [if_pos c1];omega
  have hcm:¬ dA n m<0:=by unfold dA;rw [if_neg c1];split<;>omega
  have lba:=jH ha cb Ky
  obtain ⟨la1,la2⟩:=kI Ky ha
  obtain ⟨lb1,lb2⟩:=kI Ky cb
  by_cases c2:a.length<=4
  ·have hlt:=ha.lt aX
   have h4:=eV (B:=RR) (by decide) c2
   have h5:RR ^ 4=10000000000000000:=by decide
   have q0:0<=n / m:=Int.ediv_nonneg n0 Ky
   have q1:n / m<=n:=Int.ediv_le_self _ n0
   obtain ⟨x,x1,x2⟩:=mq (a:=n / m) q0 Ky
   obtain ⟨y,y1,y2⟩:=mq (a:=n % m) r0 Ky
   refine ⟨x,y,?_,x2,y2⟩
   unfold aG.f
   refine Ev.bind hc (dP hcm (Ev.bind (la1 c2) (bA rfl (Ev.bind (lb1 Ky) (dP (show ¬ m=0 by omega) ?_)))))
   rw [fi n0,fq n0,cn (x:=n / m) Ky Ky]
   exact Ev.bind x1 (Ev.bind y1 (aZ _))
  by_cases c3:b.length=1
  ·have hx:=di cb.1 0 Ky Ky
   rw [dJ] at hx
   have em:m=rd b 0:=by
    have e:=cZ RR b 0 Ky
    rw [show 0+1=b.length by omega,List.take_length,cb.2.2] at e
    simpa [vl] using e
   obtain ⟨q,q1,q2,q3⟩:=uJ Ky ha (K:=m) ⟨Ky,Ky⟩
   obtain ⟨y,y1,y2⟩:=mq (a:=n % m) r0 Ky
   refine ⟨q,y,?_,q2,y2⟩
   unfold aG.f
   refine Ev.bind hc (dP hcm (Ev.bind (la2 Ky) (dP Kz (bA Ky (bA Ky ?_)))))
   rw [<- em]
   exact Ev.bind q1 (Ev.bind y1 (aZ _))
  obtain ⟨q,r,e1,e2,e3,e4⟩:=Jy Ky Ky ha cb hm a.length a.length (List.replicate a.length 0) [] 0 rfl (Nat.le_refl _) Kz (by rw [List.drop_eq_nil_of_le Kz];exact Dg.nil _) (Can.zero _) hm (by rw [List.drop_eq_nil_of_le Kz,List.drop_length];simp [vl]) (fun j hj=>by rw [ki _ _ (by simpa using hj)];simp)
  refine ⟨q,r,?_,e2,e3⟩
  unfold aG.f
  refine Ev.bind hc (dP hcm (Ev.bind (la2 Ky) (dP Kz (dP Ky (bA Ky (bA Ky ?_))))))
  rw [cn (x:=(a.length:Int)-1) Ky Ky,Int.toNat_natCast]
  exact e1
 obtain ⟨q,r,e1,e2,e3⟩:=key
 exact ⟨q,r,e1,e2,e3,fin q r e2 e3⟩
def gI (a b:Int):Int:=((Int.gcd a b:Nat):Int)
theorem J1 (a b:Int):gI a b=gI b a:=by unfold gI;rw [Int.gcd_comm]
theorem ue {a:Int} (h:0<=a):gI a 0=a:=by
 unfold gI
 rw [Int.gcd_zero_right]
 omega
theorem Ia (a b k:Int):gI b (a-k*b)=gI a b:=by
 unfold gI
 rw [Int.gcd_sub_mul_right_right,Int.gcd_comm]
theorem vF (a b:Int):gI b (a % b)=gI a b:=by
 rw [Int.emod_def,Int.mul_comm b]
 exact Ia a b (a / b)
theorem gI_le {a b:Int} (h:0<b):gI a b<=b:=by
 unfold gI
 exact Int.le_of_dvd h (Int.gcd_dvd_right a b)
theorem G9 (c:Nat):∀ x y:Int,y.toNat=c->0<=x->x<100000000000000000->0<=y->y<100000000000000000->∃ r,Ev (fun k=>ay.l1 k x y) r/\Can RR r (gI x y):=by
 induction c using Nat.strongRecOn with
 | _ c ih =>
  intro x y hc x0 x1 y0 y1
  by_cases c1:y>0
  ·have m0:=Int.emod_nonneg x (show y≠0 by omega)
   have m1:=Int.emod_lt_of_pos x c1
   obtain ⟨r,r1,r2⟩:=ih (x % y).toNat Ky y (x % y) rfl y0 y1 m0 Ky
   rw [vF] at r2
   refine ⟨r,?_,r2⟩
   refine Ev.step (fun k=>by rw [ay.l1]) ?_
   rw [fq x0]
   exact bA c1 (dP Ky r1)
  have e:y=0:=Ky
  subst e
  obtain ⟨r,r1,r2⟩:=mq x0 x1
  rw [ue x0]
  refine ⟨r,?_,r2⟩
  refine Ev.step (fun k=>by rw [ay.l1]) ?_
  exact dP Ky (Ev.bind r1 (aZ _))
theorem Ha (c:Nat):∀ (a b:List Int) (n m:Int),m.toNat=c->a.length<1073741824->b.length<1073741824->Can RR a n->Can RR b m->∃ r,Ev (fun k=>ay.l0 k a b) r/\Can RR r (gI n m):=by
 induction c using Nat.strongRecOn with
 | _ c ih =>
  intro a b n m hc la lb ha hb
  have n0:=ha.fH aX
  have m0:=hb.fH aX
  have hz:=hb.iV aX
  by_cases c1:m=0
  ·have e:=hz.2 c1
   rw [c1,ue n0]
   refine ⟨a,?_,ha⟩
   refine Ev.step (fun k=>by rw [ay.l0]) ?_
   exact dP Ky (aZ _)
  have e:b.length≠0:=fun h=>c1 (hz.1 h)
  have mp:0<m:=Ky
  obtain ⟨la1,la2⟩:=kI Ky ha
  obtain ⟨lb1,lb2⟩:=kI Ky hb
  have h5:RR ^ 4=10000000000000000:=by decide
  have slow:∀ x y,∃ r,Ev (fun k=>ay.j1 k a b x y false) r/\Can RR r (gI n m):=by
   intro x y
   have r0:=Int.emod_nonneg n (show m≠0 by omega)
   have r1:=Int.emod_lt_of_pos n mp
   obtain ⟨q,r,d1,d2,d3,d4,d5⟩:=tk la lb ha hb mp
   obtain ⟨z,z1,z2⟩:=ih (n % m).toNat Ky b r m (n % m) rfl lb d5 hb d3
   rw [vF] at z2
   refine ⟨z,?_,z2⟩
   refine Ev.step (fun k=>by rw [ay.j1]) ?_
   exact dP Kz (Ev.bind d1 z1)
  by_cases c2:a.length<=4
  ·by_cases c3:b.length<=4
   ·have hlt:=ha.lt aX
    have h4:=eV (B:=RR) (by decide) c2
    have hlt':=hb.lt aX
    have h4':=eV (B:=RR) (by decide) c3
    obtain ⟨z,z1,z2⟩:=G9 _ n m rfl n0 Ky m0 Ky
    refine ⟨z,?_,z2⟩
    refine Ev.step (fun k=>by rw [ay.l0]) ?_
    refine bA Ky (Ev.bind (la1 c2) (Ev.bind (lb1 c3) (bA rfl ?_)))
    refine Ev.step (fun k=>by rw [ay.j1]) ?_
    exact bA rfl z1
   obtain ⟨z,z1,z2⟩:=slow n 0
   refine ⟨z,?_,z2⟩
   refine Ev.step (fun k=>by rw [ay.l0]) ?_
   exact bA Ky (Ev.bind (la1 c2) (Ev.bind (lb2 Ky) (bA rfl z1)))
  by_cases c3:b.length<=4
  ·obtain ⟨z,z1,z2⟩:=slow 0 m
   refine ⟨z,?_,z2⟩
   refine Ev.step (fun k=>by rw [ay.l0]) ?_
   exact bA Ky (Ev.bind (la2 Ky) (Ev.bind (lb1 c3) (dP Kz z1)))
  obtain ⟨z,z1,z2⟩:=slow 0 0
  refine ⟨z,?_,z2⟩
  refine Ev.step (fun k=>by rw [ay.l0]) ?_
  exact bA Ky (Ev.bind (la2 Ky) (Ev.bind (lb2 Ky) (dP Kz z1)))
theorem Hg {a b:List Int} {n m:Int} (la:a.length<1073741824) (lb:b.length<1073741824) (ha:Can RR a n) (hb:Can RR b m):∃ r,Ev (fun k=>ay.f k a b) r/\Can RR r (gI n m):=by
 unfold ay.f
 exact Ha _ a b n m rfl la lb ha hb
theorem jy {r:List Int} {v:Int} (hr:Can WW r v) (hl:r.length<=2):eC.f r=some (v,true):=by
 unfold eC.f
 by_cases c:r.length=0
 ·rw [(hr.iV aE).1 c,if_pos Ky]
 have e:=qZ (a:=r) Ky
 have v0:=hr.fH aE
 have h0:=di hr.1 0 Ky Ky
 rw [cE] at h0
 rw [hr.2.2] at e
 by_cases h1:r.length=1
 ·rw [h1] at e
  have e2:v=rd r 0:=by simpa [vl] using e
  rw [if_neg Ky,if_pos Ky,if_pos Ky,<- e2,u64 (x:=v) Ky Ky]
 have h2:r.length=2:=Ky
 have hx:=di hr.1 1 Ky Ky
 rw [cE] at hx
 have e3:=cZ WW r 0 Ky
 have e4:v=rd r 1*4294967296+rd r 0:=by
  rw [h2] at e
  have f1:((2:Nat):Int)-1=1:=rfl
  have f2:(2:Nat)-1=0+1:=rfl
  rw [f1,f2,e3,cE,List.take_zero] at e
  simp only [vl] at e
  rw [e]
  have f3:((0:Nat):Int)=0:=rfl
  have f4:(4294967296:Int) ^ 0=1:=rfl
  have f5:(4294967296:Int) ^ (0+1)=4294967296:=rfl
  rw [f3,f4,f5]
  omega
 rw [if_neg Ky,if_neg Ky,if_pos Ky,if_pos Ky,if_pos Ky,u64 (x:=rd r 1) Ky Ky,u64 (x:=rd r 0) Ky Ky,u64 (x:=rd r 1*4294967296) Ky Ky,C0 hx h0,e4]
theorem E1 {n m p q:Int}:m*q-n*(-p)=p*n+q*m:=by grind
theorem E0 {n m p q:Int}:n*p-m*(-q)=p*n+q*m:=by grind
theorem vP {a b:List Int} {n m p q:Int} (la:a.length<1073741824) (lb:b.length<1073741824) (ha:Can WW a n) (hb:Can WW b m) (hs:(0<=p/\q<=0)∨(p<=0/\0<=q))
 (hp:-4611686018427387904<=p/\p<=4611686018427387904) (hq:-4611686018427387904<=q/\q<=4611686018427387904) (h:0<=p*n+q*m):∃ r,Ev (fun k=>cm.f k a b p q) r/\Can WW r (p*n+q*m):=by
 have hW2:WW ^ 2=18446744073709551616:=by decide
 have pos:p<=0->0<=q->∃ r,Ev (fun k=>cm.j0 k a b p q true) r/\Can WW r (p*n+q*m):=by
  intro p0 q0
  obtain ⟨t,t1,t2⟩:=gA (a:=q) q0 Ky
  have t3:=t2.fZ (k:=2) bE Ky
  obtain ⟨x,x1,x2,x3⟩:=ko Ky hb t2
  obtain ⟨s,s1,s2⟩:=gA (a:=-p) Ky Ky
  have s3:=s2.fZ (k:=2) bE Ky
  obtain ⟨y,y1,y2,y3⟩:=ko Ky ha s2
  rw [<- E1] at h
  obtain ⟨z,z1,z2,z3⟩:=pV Ky x2 y2 Ky
  rw [E1] at z2
  refine ⟨z,?_,z2⟩
  refine Ev.step (fun k=>by rw [cm.j0]) ?_
  rw [cn (x:=-p) Ky Ky,u64 (x:=-p) Ky Ky,u64 (x:=q) Ky Ky]
  exact bA rfl (Ev.bind t1 (Ev.bind x1 (Ev.bind s1 (Ev.bind y1 (Ev.bind z1 (aZ _))))))
 have neg:0<=p->q<=0->∃ r,Ev (fun k=>cm.j0 k a b p q false) r/\Can WW r (p*n+q*m):=by
  intro p0 q0
  obtain ⟨t,t1,t2⟩:=gA (a:=p) p0 Ky
  have t3:=t2.fZ (k:=2) bE Ky
  obtain ⟨x,x1,x2,x3⟩:=ko Ky ha t2
  obtain ⟨s,s1,s2⟩:=gA (a:=-q) Ky Ky
  have s3:=s2.fZ (k:=2) bE Ky
  obtain ⟨y,y1,y2,y3⟩:=ko Ky hb s2
  rw [<- E0] at h
  obtain ⟨z,z1,z2,z3⟩:=pV Ky x2 y2 Ky
  rw [E0] at z2
  refine ⟨z,?_,z2⟩
  refine Ev.step (fun k=>by rw [cm.j0]) ?_
  rw [cn (x:=-q) Ky Ky,u64 (x:=-q) Ky Ky,u64 (x:=p) Ky Ky]
  exact dP Kz (Ev.bind t1 (Ev.bind x1 (Ev.bind s1 (Ev.bind y1 (Ev.bind z1 (aZ _))))))
 unfold cm.f
 by_cases c1:p<0
 ·obtain ⟨r,r1,r2⟩:=pos Ky Ky
  exact ⟨r,bA c1 r1,r2⟩
 by_cases c2:q>0
 ·obtain ⟨r,r1,r2⟩:=pos Ky Ky
  rw [decide_eq_true c2]
  exact ⟨r,dP c1 r1,r2⟩
 obtain ⟨r,r1,r2⟩:=neg Ky Ky
 rw [decide_eq_false c2]
 exact ⟨r,dP c1 r1,r2⟩
theorem IV {p q x y T a b d:Int}:p*(T*x+a)+q*(T*y+b)=T*(p*x+q*y+q)+p*a+(q*b-q*T):=by grind
theorem IU {p q x y T a b d:Int}:p*(T*x+a)+q*(T*y+b)=T*(p*x+q*y+p)+(p*a-p*T)+q*b:=by grind
theorem Dq {p q x y T a b d:Int} (hT:0<T) (ha:0<=a/\a<T) (hb:0<=b/\b<T) (hs:(0<=p/\q<=0)∨(p<=0/\0<=q)) (h1:d<=p*x+q*y+p) (h2:d<=p*x+q*y+q):T*d<=p*(T*x+a)+q*(T*y+b):=by
 rcases hs with ⟨h3,h4⟩ | ⟨h3,h4⟩
 ·have k1:0<=p*a:=Int.mul_nonneg h3 ha.1
  have k2:q*T<=q*b:=Int.mul_le_mul_of_nonpos_left h4 Ky
  have k3:T*d<=T*(p*x+q*y+q):=Int.mul_le_mul_of_nonneg_left h2 Ky
  rw [IV (d:=d)]
  omega
 have k1:0<=q*b:=Int.mul_nonneg h4 hb.1
 have k2:p*T<=p*a:=Int.mul_le_mul_of_nonpos_left h3 Ky
 have k3:T*d<=T*(p*x+q*y+p):=Int.mul_le_mul_of_nonneg_left h1 Ky
 rw [IU (d:=d)]
 omega
theorem sA {k r:Int} (hk:0<=k/\k<=2147483648) (hr:-2147483648<=r/\r<=2147483648):-4611686018427387904<=k*r/\k*r<=4611686018427387904:=by
 have h1:k*r<=k*2147483648:=Int.mul_le_mul_of_nonneg_left hr.2 hk.1
 have h2:k*(-2147483648)<=k*r:=Int.mul_le_mul_of_nonneg_left hr.1 hk.1
 omega
theorem alg_l1 {p q r s x y k u v:Int} (hu:u=p*x+q*y) (hv:v=r*x+s*y):u-k*v=(p-k*r)*x+(q-k*s)*y:=by rw [hu,hv];grind
theorem IZ {p q r s n m k:Int}:(p-k*r)*n+(q-k*s)*m=(p*n+q*m)-k*(r*n+s*m):=by grind
theorem alg_l3 {p q r s n m k:Int}:((k+1)*r-p)*n+((k+1)*s-q)*m=(k+1)*(r*n+s*m)-(p*n+q*m):=by grind
theorem IY {u p v r k:Int}:(u-k*v)+(p-k*r)=(u+p)-k*(v+r):=by grind
theorem IX {x y p q r s u v k g h:Int} (hu:u=p*x+q*y) (hv:v=r*x+s*y):((k+1)*r-p)*x+((k+1)*s-q)*y+((k+1)*g-h)=(k+1)*(v+g)-(u+h):=by rw [hu,hv];grind
theorem vY {k A:Int}:(k+1)*A=k*A+A:=by grind
def zi (n m:Int) (R:List Int×List Int×Bool):Prop:=R.2.2=true->∃ C D,Can WW R.1 C/\Can WW R.2.1 D/\gI C D=gI n m/\D<=C/\D<m/\C<=n
theorem FI {a b:List Int} {n m p q r s:Int} (la:a.length<1073741824) (lb:b.length<1073741824) (ha:Can WW a n) (hb:Can WW b m)
 (h1:(0<=p/\q<=0)∨(p<=0/\0<=q)) (h2:(0<=r/\s<=0)∨(r<=0/\0<=s))
 (bp:-2147483648<=p/\p<=2147483648) (bq:-2147483648<=q/\q<=2147483648) (br:-2147483648<=r/\r<=2147483648) (bs:-2147483648<=s/\s<=2147483648)
 (hA:0<=p*n+q*m) (hB:0<=r*n+s*m) (hg:gI (p*n+q*m) (r*n+s*m)=gI n m) (hn:p*n+q*m<=n) (hBA:r*n+s*m<=p*n+q*m) (hm:q≠0->r*n+s*m<m) :
 ∃ R,Ev (fun k=>bg.j2 k a b p q r s) R/\zi n m R:=by
 by_cases c:q=0
 ·refine ⟨([],[],false),?_,fun h=>by simp at h⟩
  refine Ev.step (fun k=>by rw [bg.j2]) ?_
  exact bA c (aZ _)
 obtain ⟨x,x1,x2⟩:=vP la lb ha hb h1 Ky Ky hA
 obtain ⟨y,y1,y2⟩:=vP la lb ha hb h2 Ky Ky hB
 refine ⟨(x,y,true),?_,fun _=>⟨_,_,x2,y2,hg,hBA,hm c,hn⟩⟩
 refine Ev.step (fun k=>by rw [bg.j2]) ?_
 exact dP c (Ev.bind x1 (Ev.bind y1 (aZ _)))
theorem FH {a b:List Int} {n m x y T a' b':Int} (la:a.length<1073741824) (lb:b.length<1073741824) (ha:Can WW a n) (hb:Can WW b m) (hT:0<T) (hn:n=T*x+a') (hm:m=T*y+b') (ha':0<=a'/\a'<T) (hb':0<=b'/\b'<T) (c:Nat) :
 ∀ p q r s u v:Int,(v+r).toNat=c->u=p*x+q*y->v=r*x+s*y ->
 ((0<=p/\q<=0/\r<=0/\0<=s)∨(p<=0/\0<=q/\0<=r/\s<=0)) ->
 (0<=u+p/\u+p<=2147483648)->(0<=u+q/\u+q<=2147483648)->(0<=v+r/\v+r<=2147483648)->(0<=v+s/\v+s<=2147483648) ->
 gI (p*n+q*m) (r*n+s*m)=gI n m->r*n+s*m<=m->p*n+q*m<=n->r*n+s*m<=p*n+q*m->(q≠0->r*n+s*m<m)->m<=n ->
 ∃ R,Ev (fun k=>bg.l0 k a b p q r s u v) R/\zi n m R:=by
 induction c using Nat.strongRecOn with
 | _ c ih =>
  intro p q r s u v hc hu hv hs bp bq br bs hg hBm hAn hBA hq hmn
  have hA:0<=p*n+q*m:=by
   have:=Dq (p:=p) (q:=q) (x:=x) (y:=y) (d:=0) hT ha' hb' Ky (by rw [<- hu];omega) (by rw [<- hu];omega)
   rw [hn,hm];omega
  have hB:0<=r*n+s*m:=by
   have:=Dq (p:=r) (q:=s) (x:=x) (y:=y) (d:=0) hT ha' hb' Ky (by rw [<- hv];omega) (by rw [<- hv];omega)
   rw [hn,hm];omega
  obtain ⟨R0,e1,e2⟩:=FI (p:=p) (q:=q) (r:=r) (s:=s) la lb ha hb Ky Ky Ky Ky Ky Ky hA hB hg hAn hBA hq
  have stop:Ev (fun k=>bg.j1 k a b p q r s u v false) R0:=by
   refine Ev.step (fun k=>by rw [bg.j1]) ?_
   exact dP Kz e1
  by_cases c1:v+r=0
  ·refine ⟨R0,?_,e2⟩
   refine Ev.step (fun k=>by rw [bg.l0]) ?_
   rw [cn (x:=v+r) Ky Ky]
   exact bA c1 stop
  by_cases c2:v+s=0
  ·refine ⟨R0,?_,e2⟩
   refine Ev.step (fun k=>by rw [bg.l0]) ?_
   rw [cn (x:=v+r) Ky Ky,cn (x:=v+s) Ky Ky,show (v+s != 0)=false by simp [c2]]
   exact dP c1 stop
  have step:∀ R,Ev (fun k=>bg.j1 k a b p q r s u v true) R->Ev (fun k=>bg.l0 k a b p q r s u v) R:=by
   intro R h
   refine Ev.step (fun k=>by rw [bg.l0]) ?_
   rw [cn (x:=v+r) Ky Ky,cn (x:=v+s) Ky Ky,show (v+s != 0)=true by simp [c2]]
   exact dP c1 h
  have k0:0<=(u+p) / (v+r):=Int.ediv_nonneg Ky Ky
  have k1:(u+p) / (v+r)<=u+p:=Int.ediv_le_self _ Ky
  have g0:0<=(u+q) / (v+s):=Int.ediv_nonneg Ky Ky
  have g1:(u+q) / (v+s)<=u+q:=Int.ediv_le_self _ Ky
  have d1:=Int.mul_ediv_add_emod (u+p) (v+r)
  have d2:=Int.emod_nonneg (u+p) (show v+r≠0 by omega)
  have d3:=Int.emod_lt_of_pos (u+p) (show 0<v+r by omega)
  have f1:=Int.mul_ediv_add_emod (u+q) (v+s)
  have f2:=Int.emod_nonneg (u+q) (show v+s≠0 by omega)
  have f3:=Int.emod_lt_of_pos (u+q) (show 0<v+s by omega)
  generalize hk:(u+p) / (v+r)=K at k0 k1 d1
  generalize hk2:(u+q) / (v+s)=K2 at g0 g1 f1
  generalize (u+p) % (v+r)=w1 at d1 d2 d3
  generalize (u+q) % (v+s)=w2 at f1 f2 f3
  have tests:∀ R,(K=K2->Ev (fun k=>bg.l0 k a b r s (p-K*r) (q-K*s) v (u-K*v)) R)->(K≠K2->Ev (fun k=>bg.j2 k a b p q r s) R)->Ev (fun k=>bg.j1 k a b p q r s u v true) R:=by
   intro R h1 h2
   refine Ev.step (fun k=>by rw [bg.j1]) ?_
   have m1:=sA (k:=K) (r:=r) ⟨k0,Ky⟩ Ky
   have m2:=sA (k:=K) (r:=s) ⟨k0,Ky⟩ Ky
   have m3:=sA (k:=K) (r:=v) ⟨k0,Ky⟩ Ky
   rw [cn (x:=v+r) Ky Ky,cn (x:=v+s) Ky Ky,cn (x:=u+p) Ky Ky,cn (x:=u+q) Ky Ky,fi (x:=u+p) Ky,fi (x:=u+q) Ky,hk,hk2,
    cn (x:=K) Ky Ky,cn (x:=K2) Ky Ky,cn (x:=K*r) Ky Ky,cn (x:=K*s) Ky Ky,cn (x:=K*v) Ky Ky,cn (x:=p-K*r) Ky Ky,cn (x:=q-K*s) Ky Ky,cn (x:=u-K*v) Ky Ky]
   refine bA rfl (dP c1 (dP c2 ?_))
   by_cases c3:K=K2
   ·exact bA c3 (h1 c3)
   exact dP c3 (h2 c3)
  by_cases c3:K=K2
  ·subst c3
   have s1:(u-K*v)+(p-K*r)=w1:=by rw [IY,Int.mul_comm K];omega
   have s2:(u-K*v)+(q-K*s)=w2:=by rw [IY,Int.mul_comm K];omega
   have sg:(0<=r/\s<=0/\p-K*r<=0/\0<=q-K*s)∨(r<=0/\0<=s/\0<=p-K*r/\q-K*s<=0):=by
    rcases hs with ⟨t1,t2,t3,t4⟩ | ⟨t1,t2,t3,t4⟩
    ·have i1:=Int.mul_nonpos_of_nonneg_of_nonpos k0 t3
     have i2:=Int.mul_nonneg k0 t4
     exact .inr ⟨t3,t4,Ky,Ky⟩
    have i1:=Int.mul_nonneg k0 t3
    have i2:=Int.mul_nonpos_of_nonneg_of_nonpos k0 t4
    exact .inl ⟨t3,t4,Ky,Ky⟩
   have lt:(p-K*r)*n+(q-K*s)*m<r*n+s*m:=by
    have i:=Dq (p:=(K+1)*r-p) (q:=(K+1)*s-q) (x:=x) (y:=y) (d:=1) hT ha' hb' (by
     rw [vY,vY]
     omega) (by
     rw [IX hu hv,vY,Int.mul_comm K]
     omega) (by
     rw [IX hu hv,vY,Int.mul_comm K]
     omega)
    rw [<- hn,<- hm,alg_l3,vY] at i
    rw [IZ]
    omega
   obtain ⟨R,r1,r2⟩:=ih (u-K*v+(p-K*r)).toNat (by rw [s1];omega) r s (p-K*r) (q-K*s) v (u-K*v) rfl hv (alg_l1 hu hv) sg Ky Ky Ky Ky
    (by rw [IZ,Ia];exact hg) Ky Ky Ky (fun _=>Ky) hmn
   exact ⟨R,step R (tests R (fun _=>r1) (fun h=>absurd rfl h)),r2⟩
  exact ⟨R0,step R0 (tests R0 (fun h=>absurd h c3) (fun _=>e1)),e2⟩
theorem FG {a b:List Int} {n m:Int} (la:a.length<1073741824) (lb:b.length<1073741824) (hb2:2<b.length) (ha:Can WW a n) (hb:Can WW b m) (hmn:m<=n):∃ R,Ev (fun k=>bg.f k a b) R/\zi n m R:=by
 have lba:=kx ha hb hmn
 have n0:=ha.fH aE
 have m0:=hb.fH aE
 have mz:=hb.iV aE
 have m1:m≠0:=fun h=>by have:=mz.2 h;omega
 obtain ⟨A,A1,A2,A3,A4⟩:=tF Ky ha
 obtain ⟨B,B1,B2,B3,B4⟩:=tF Ky hb
 obtain ⟨A5,A6,A7,A8⟩:=A4 Ky
 clear A3 A4 B3 B4
 unfold bg.f
 rw [A1,B1]
 simp only [Option.bind_some]
 rw [cn (x:=(A:Int)-20) Ky Ky,cn (x:=(A:Int)-31) Ky Ky,show (A:Int)-31=((A-31:Nat):Int) by omega]
 by_cases c:(B:Int)<(A:Int)-20
 ·exact ⟨([],[],false),bA c (aZ _),fun h=>by simp at h⟩
 obtain ⟨x,x1,x2,x3⟩:=pW (A-31) Ky Ky ha
 obtain ⟨y,y1,y2,y3⟩:=pW (A-31) Ky Ky hb
 have hT:=two_pos (A-31)
 have e:(2:Int) ^ A=2 ^ (A-31)*2147483648:=by
  rw [show (2147483648:Int)=2 ^ 31 by decide,<- Int.pow_add]
  congr 1
  omega
 rw [e] at A6
 clear e A5
 generalize (2:Int) ^ (A-31)=T at hT A6 x2 y2
 have q1:n / T<2147483648:=Int.ediv_lt_of_lt_mul hT (by rw [Int.mul_comm];exact A6)
 have q2:m / T<=n / T:=Int.ediv_le_ediv hT hmn
 have q3:0<=m / T:=Int.ediv_nonneg m0 Ky
 have hW2:WW ^ 2=18446744073709551616:=by decide
 have sx:=jy x2 (x2.fZ (k:=2) bE Ky)
 have sy:=jy y2 (y2.fZ (k:=2) bE Ky)
 have i1:=Int.emod_nonneg n (show T≠0 by omega)
 have i2:=Int.emod_lt_of_pos n hT
 have i3:=Int.emod_nonneg m (show T≠0 by omega)
 have i4:=Int.emod_lt_of_pos m hT
 have j1:=Int.mul_ediv_add_emod n T
 have j2:=Int.mul_ediv_add_emod m T
 obtain ⟨R,r1,r2⟩:=FH la lb ha hb hT j1.symm j2.symm ⟨i1,i2⟩ ⟨i3,i4⟩ _ 1 0 0 1 (n / T) (m / T) rfl Ky Ky Ky Ky Ky Ky Ky
  (by rw [Int.one_mul,Int.zero_mul,Int.zero_mul,Int.one_mul,Int.add_zero,Int.zero_add]) Ky Ky Ky (fun h=>absurd rfl h) hmn
 refine ⟨R,dP c (Ev.bind x1 (kB sx (Ev.bind y1 (kB sy ?_)))),r2⟩
 show Ev (fun k=>bg.l0 k a b 1 0 0 1 (wrap64 (n / T)) (wrap64 (m / T))) R
 rw [cn (x:=n / T) Ky Ky,cn (x:=m / T) Ky Ky]
 exact r1
theorem Da (c:Nat):∀ x y:Int,y.toNat=c->0<=x->x<18446744073709551616->0<=y->y<18446744073709551616->∃ r,Ev (fun k=>bW.l1 k x y) r/\Can WW r (gI x y):=by
 induction c using Nat.strongRecOn with
 | _ c ih =>
  intro x y hc x0 x1 y0 y1
  by_cases c1:y=0
  ·subst c1
   obtain ⟨r,r1,r2⟩:=gA x0 x1
   rw [ue x0]
   refine ⟨r,?_,r2⟩
   refine Ev.step (fun k=>by rw [bW.l1]) ?_
   exact bA rfl (Ev.bind r1 (aZ _))
  have m0:=Int.emod_nonneg x (show y≠0 by omega)
  have m1:=Int.emod_lt_of_pos x (show 0<y by omega)
  obtain ⟨r,r1,r2⟩:=ih (x % y).toNat Ky y (x % y) rfl y0 y1 m0 Ky
  rw [vF] at r2
  refine ⟨r,?_,r2⟩
  refine Ev.step (fun k=>by rw [bW.l1]) ?_
  rw [fq x0]
  exact dP c1 r1
theorem vf (c:Nat):∀ (a b:List Int) (n m:Int),m.toNat=c->a.length<1073741824->Can WW a n->Can WW b m->m<=n->∃ r,Ev (fun k=>bW.l0 k a b) r/\Can WW r (gI n m):=by
 induction c using Nat.strongRecOn with
 | _ c ih =>
  intro a b n m hc la ha hb hmn
  have lba:=kx ha hb hmn
  have n0:=ha.fH aE
  have m0:=hb.fH aE
  have hz:=hb.iV aE
  have hW2:WW ^ 2=18446744073709551616:=by decide
  by_cases c1:2<b.length
  ·have mp:0<m:=by
    rcases Int.lt_or_le 0 m with h | h
    ·exact h
    have:=hz.2 Ky
    omega
   obtain ⟨R,r1,r2⟩:=FG la Ky c1 ha hb hmn
   obtain ⟨x,y,f⟩:=R
   cases f with
   | true =>
    obtain ⟨C,D,s1,s2,s3,s4,s5,s6⟩:=r2 rfl
    have D0:=s2.fH aE
    have lc:=kx ha s1 s6
    obtain ⟨z,z1,z2⟩:=ih D.toNat Ky x y C D rfl (by show x.length<_;have:x.length<=a.length:=lc;omega) s1 s2 s4
    rw [s3] at z2
    refine ⟨z,?_,z2⟩
    refine Ev.step (fun k=>by rw [bW.l0]) ?_
    exact bA Ky (Ev.bind r1 (bA rfl z1))
   | false =>
    have q0:=Int.emod_nonneg n (show m≠0 by omega)
    have q1:=Int.emod_lt_of_pos n mp
    obtain ⟨q,r,d1,d2,d3⟩:=k8 Ky ha hb mp
    obtain ⟨z,z1,z2⟩:=ih (n % m).toNat Ky b r m (n % m) rfl Ky hb d3 Ky
    rw [vF] at z2
    refine ⟨z,?_,z2⟩
    refine Ev.step (fun k=>by rw [bW.l0]) ?_
    exact bA Ky (Ev.bind r1 (dP Kz (Ev.bind d1 z1)))
  by_cases c2:b.length=0
  ·rw [hz.1 c2,ue n0]
   refine ⟨a,?_,ha⟩
   refine Ev.step (fun k=>by rw [bW.l0]) ?_
   exact dP Ky (bA Ky (bA (by simp;omega) (aZ _)))
  have mp:0<m:=by
   rcases Int.lt_or_le 0 m with h | h
   ·exact h
   have:=hz.2 Ky
   omega
  have q0:=Int.emod_nonneg n (show m≠0 by omega)
  have q1:=Int.emod_lt_of_pos n mp
  obtain ⟨q,r,d1,d2,d3⟩:=k8 Ky ha hb mp
  have hlt:=hb.lt aE
  have h4:=eV (B:=WW) (by decide) (show b.length<=2 by omega)
  have l3:=d3.fZ (k:=2) bE Ky
  have e1:=jy hb Ky
  have e2:=jy d3 l3
  obtain ⟨z,z1,z2⟩:=Da _ m (n % m) rfl m0 Ky q0 Ky
  rw [vF] at z2
  refine ⟨z,?_,z2⟩
  refine Ev.step (fun k=>by rw [bW.l0]) ?_
  exact dP Ky (dP Ky (Ev.bind d1 (kB e1 (kB e2 z1))))
theorem Di {a b:List Int} {n m:Int} (la:a.length<1073741824) (lb:b.length<1073741824) (ha:Can WW a n) (hb:Can WW b m):∃ r,Ev (fun k=>bW.f k a b) r/\Can WW r (gI n m):=by
 have hc:=pX Ky ha hb
 unfold bW.f
 by_cases c:n<m
 ·obtain ⟨r,r1,r2⟩:=vf _ b a m n rfl lb hb ha Ky
  rw [J1] at r2
  refine ⟨r,Ev.bind hc (bA ?_ ?_),r2⟩
  ·unfold dA;rw [if_pos c];omega
  exact Ev.step (fun k=>by rw [bW.j0]) r1
 obtain ⟨r,r1,r2⟩:=vf _ a b n m rfl la ha hb Ky
 refine ⟨r,Ev.bind hc (dP ?_ ?_),r2⟩
 ·unfold dA;rw [if_neg c];split<;>omega
 exact Ev.step (fun k=>by rw [bW.j0]) r1
def sv (s:ByteArray):Nat->Int
 | 0=>0
 | i+1=>sv s i*10+(bt s (i:Int)-48)
theorem Jo {x:Int} {c:Nat} (hc:c<=63):shr .i64 x (c:Int)=x / 2 ^ c:=by
 have hm:min c IntKind.i64.bits=c:=by
  have:IntKind.i64.bits=64:=rfl
  omega
 unfold shr
 rw [Int.toNat_natCast,hm]
theorem and1 {x:Int} (h0:0<=x) (h1:x<4294967296):Go.bits .and .i64 x 1=x % 2 :=
 bits_mask .i64 32 (by decide) (fun n h0 h1=>by rw [IntKind.wrap_i64];omega) 1 (by decide) x h0 h1
theorem Hd {a:List Int} {v:Int} (hl:a.length<=16) (ha:Can RR a v) (N:Nat) (hN:N<=1000) (d:Nat):∀ (i:Nat) (o:List Int),N-i=d->i<=N->Can RR o (v ^ i)->o.length<=16*i+1 ->
 ∃ r,Ev (fun k=>bb.l0 k a o (N:Int) (i:Int)) r/\Can RR r (v ^ N)/\r.length<=16*N+1:=by
 induction d with
 | zero =>
  intro i o h1 h2 h3 h4
  have e:i=N:=Ky
  subst e
  refine ⟨o,?_,h3,h4⟩
  refine Ev.step (fun k=>by rw [bb.l0]) ?_
  exact dP Ky (aZ _)
 | succ d ih =>
  intro i o h1 h2 h3 h4
  obtain ⟨p,p1,p2,p3⟩:=Af Ky h3 ha
  rw [<- Int.pow_succ] at p2
  obtain ⟨r,r1,r2⟩:=ih (i+1) p Ky Ky p2 Ky
  refine ⟨r,?_,r2⟩
  refine Ev.step (fun k=>by rw [bb.l0]) ?_
  rw [fp (i:=i) Ky]
  exact bA Ky (Ev.bind p1 r1)
theorem Hc {a:List Int} {v:Int} (hl:a.length<=16) (ha:Can RR a v) (N:Nat) (hN:N<=1000):∃ r,Ev (fun k=>bb.f k a (N:Int)) r/\Can RR r (v ^ N)/\r.length<=16*N+1:=by
 obtain ⟨r,r1,r2⟩:=Hd hl ha N hN N 0 [1] Ky Ky (by rw [Int.pow_zero];exact ⟨Dg.mk (by decide) (by decide) (Dg.nil _),fun h=>Kz,by decide⟩) Kz
 exact ⟨r,by unfold bb.f;exact r1,r2⟩
end Go.Proofs.YtfbgaddecbiimaaGreatDoor.P
end
section
namespace Go.Proofs.YtfbgaddecbiimaaGreatDoor.Q
open Go.RowKit Go.Proofs.YtfbgaddecbiimaaGreatDoorW.PrintWords Go.Proofs.YtfbgaddecbiimaaGreatDoorW.PrintMore Go.Proofs.YtfbgaddecbiimaaGreatDoor.V Go.Proofs.YtfbgaddecbiimaaGreatDoor.E
open Go.Proofs.YtfbgaddecbiimaaGreatDoor.P (Dg Nm vl WW RR bH gI aZ jQ kB dA aE bE)
theorem bT {α:Type} {c:Bool} {f g:Nat->Option α} {r:α} (hc:c=true) (h:Ev f r):Ev (fun k=>bif c then f k else g k) r:=by subst hc;exact h
theorem bF {α:Type} {c:Bool} {f g:Nat->Option α} {r:α} (hc:c=false) (h:Ev g r):Ev (fun k=>bif c then f k else g k) r:=by subst hc;exact h
theorem iT {α:Type} {c:Prop} [Decidable c] {f:Nat->Option α} {r:α} (hc:c) (h:Ev f r):Ev (fun k=>if c then f k else none) r:=by simpa only [if_pos hc] using h
theorem evmap {α β:Type} {f:Nat->Option α} {g:α->β} {r:α} (h:Ev f r):Ev (fun k=>(f k).map g) (g r):=by
 obtain ⟨K,h⟩:=h
 exact ⟨K,fun k hk=>by simp only [h k hk,Option.map_some]⟩
def sg (s:Bool) (x:Int):Int:=if s then -x else x
def RB (B:Int) (v:aI) (q:Rat):Prop:=v.1=decide (q.num<0)/\P.Can B v.2.1 (q.num.natAbs:Int)/\P.Can B v.2.2.1 (q.den:Int)
theorem BI {B:Int} (h:1<B):P.Can B [1] 1:=⟨Dg.mk (by decide) h (Dg.nil _),fun h=>Kz,by simp [vl]⟩
theorem tZ {B:Int} (h:1<B):RB B (false,[],[1],()) 0:=⟨rfl,P.Can.zero B,BI h⟩
theorem CC {B:Int} (h:1<B):RB B (false,[1],[1],()) 1:=⟨rfl,BI h,BI h⟩
theorem Ea {B:Int} (hB:0<B) {v w:aI} {q:Rat} (hv:RB B v q) (hw:RB B w q):v=w:=by
 obtain ⟨a,b,c,d⟩:=v
 obtain ⟨a',b',c',d'⟩:=w
 obtain ⟨h1,h2,h3⟩:=hv
 obtain ⟨g1,g2,g3⟩:=hw
 have e1:a=a':=h1.trans g1.symm
 have e2:b=b':=bH hB h2 g2
 have e3:c=c':=bH hB h3 g3
 subst e1 e2 e3
 rfl
theorem ED (x y:Int):((y.gcd x:Nat):Int)=gI x y:=by unfold gI;rw [Int.gcd_comm]
theorem qC {B:Int} {s:Bool} {l d:List Int} {x y:Int} (hx:0<x) (hy:0<y) (hl:P.Can B l (x / gI x y)) (hd:P.Can B d (y / gI x y)):RB B (s,l,d,()) (Rat.divInt (sg s x) y):=by
 have hg:0<gI x y:=by
  unfold gI
  have:=Int.gcd_pos_of_ne_zero_left y (show x≠0 by omega)
  omega
 have hgx:gI x y ∣ x:=Int.gcd_dvd_left ..
 have hgy:gI x y ∣ y:=Int.gcd_dvd_right ..
 have hq:0<x / gI x y:=Int.ediv_pos_of_pos_of_dvd hx Ky hgx
 have hr:0<y / gI x y:=Int.ediv_pos_of_pos_of_dvd hy Ky hgy
 have hsg:((y.gcd (sg s x):Nat):Int)=gI x y:=by
  unfold sg
  cases s with
  | true=>simp only [if_true,Int.gcd_neg];exact ED x y
  | false=>exact ED x y
 have hnum:(Rat.divInt (sg s x) y).num=sg s (x / gI x y):=by
  rw [Rat.num_divInt,hsg,Int.sign_eq_one_of_pos hy,Int.one_mul]
  unfold sg
  cases s with
  | true=>simp only [if_true];exact Int.neg_ediv_of_dvd hgx
  | false=>rfl
 have hden:((Rat.divInt (sg s x) y).den:Int)=y / gI x y:=by
  rw [Rat.den_divInt,if_neg Ky,Int.natCast_ediv,hsg]
  congr 1
  omega
 refine ⟨?_,?_,?_⟩
 ·show s=_
  rw [hnum]
  unfold sg
  cases s with
  | true=>simp only [if_true];exact (decide_eq_true Ky).symm
  | false=>exact (decide_eq_false (by simp;omega)).symm
 ·show P.Can B l _
  rw [hnum]
  have:((sg s (x / gI x y)).natAbs:Int)=x / gI x y:=by
   unfold sg
   cases s with
   | true=>simp only [if_true];omega
   | false=>simp;omega
  rw [this]
  exact hl
 show P.Can B d _
 rw [hden]
 exact hd
theorem xB (s:Bool) (y:Int):Rat.divInt (sg s 0) y=0:=by unfold sg;cases s<;>simp
theorem G8 {B:Int} {v:aI} {q:Rat} (h:RB B v q):Rat.divInt (sg v.1 q.num.natAbs) q.den=q:=by
 have:sg v.1 q.num.natAbs=q.num:=by
  unfold sg
  rw [h.1]
  by_cases c:q.num<0
  ·rw [if_pos (decide_eq_true c)];omega
  rw [if_neg (by simpa using c)];omega
 rw [this,Rat.num_divInt_den]
theorem kX {B:Int} {v:aI} {q:Rat} (h:RB B v q):sg v.1 q.num.natAbs=q.num:=by
 unfold sg
 rw [h.1]
 by_cases c:q.num<0
 ·rw [if_pos (decide_eq_true c)];omega
 rw [if_neg (by simpa using c)];omega
theorem eJ (q:Rat):(0:Int)<q.den:=by have:=q.den_pos;omega
def Sz (B:Int) (K:Nat) (q:Rat):Prop:=(q.num.natAbs:Int)<B ^ K/\(q.den:Int)<B ^ K
theorem qx {B:Int} (hB:0<B) {v:aI} {q:Rat} (h:RB B v q) {K:Nat} (h1:v.2.1.length<=K) (h2:v.2.2.1.length<=K):Sz B K q :=
 ⟨Int.lt_of_lt_of_le (h.2.1.lt hB) (P.eV Ky h1),Int.lt_of_lt_of_le (h.2.2.lt hB) (P.eV Ky h2)⟩
theorem fY {B:Int} (hB:1<B) {v:aI} {q:Rat} (h:RB B v q) {K:Nat} (hs:Sz B K q):v.2.1.length<=K/\v.2.2.1.length<=K:=⟨h.2.1.fZ hB hs.1,h.2.2.fZ hB hs.2⟩
theorem eN {B:Int} (hB:0<B) {q:Rat} {K L:Nat} (hs:Sz B K q) (h:K<=L):Sz B L q:=⟨Int.lt_of_lt_of_le hs.1 (P.eV Ky h),Int.lt_of_lt_of_le hs.2 (P.eV Ky h)⟩
theorem DX {B:Int} {s:Bool} {x y:Int} {K:Nat} (hx:0<=x) (hy:0<y) (h1:x<B ^ K) (h2:y<B ^ K):Sz B K (Rat.divInt (sg s x) y):=by
 have hsx:(sg s x).natAbs=x.natAbs:=by unfold sg;cases s<;>simp
 constructor
 ·rw [Rat.num_divInt,Int.sign_eq_one_of_pos hy,Int.one_mul]
  have:((sg s x) / ((y.gcd (sg s x):Nat):Int)).natAbs<=(sg s x).natAbs:=by
   rw [Int.natAbs_ediv_of_dvd (Int.gcd_dvd_right ..)]
   exact Nat.div_le_self ..
  omega
 rw [Rat.den_divInt,if_neg Ky]
 have:y.natAbs / (y.gcd (sg s x))<=y.natAbs:=Nat.div_le_self ..
 omega
open Go.Proofs.YtfbgaddecbiimaaGreatDoor.P (cn u64)
section
variable {a b:List Int} {n m:Int}
theorem Ah (hn:a.length+b.length<1099511627776) (ha:P.Can WW a n) (hb:P.Can WW b m):∃ r,Ev (fun k=>bG k a b) r/\P.Can WW r (n*m)/\r.length<=a.length+b.length:=by
 obtain ⟨r,h1,h2⟩:=P.ko hn ha hb
 exact ⟨r,Ev.step (fun k=>Dh k a b) h1,h2⟩
theorem q_Add (hla:a.length<1099511627776) (hlb:b.length<1099511627776) (ha:P.Can WW a n) (hb:P.Can WW b m):∃ r,Ev (fun k=>cP k a b) r/\P.Can WW r (n+m)/\r.length<=max a.length b.length+1:=by
 obtain ⟨r,h1,h2⟩:=P.Dm hla hlb ha hb
 exact ⟨r,Ev.step (fun k=>Dp k a b) h1,h2⟩
theorem q_Sub (hn:a.length<1099511627776) (ha:P.Can WW a n) (hb:P.Can WW b m) (hle:m<=n):∃ r,Ev (fun k=>de k a b) r/\P.Can WW r (n-m)/\r.length<=a.length:=by
 obtain ⟨r,h1,h2⟩:=P.pV hn ha hb hle
 exact ⟨r,Ev.step (fun k=>Dc k a b) h1,h2⟩
theorem q_Cmp (hn:a.length<4611686018427387904) (ha:P.Can WW a n) (hb:P.Can WW b m):Ev (fun k=>dj k a b) (dA n m):=Ev.step (fun k=>Dl k a b) (P.pX hn ha hb)
theorem q_GCD (la:a.length<1073741824) (lb:b.length<1073741824) (ha:P.Can WW a n) (hb:P.Can WW b m):∃ r,Ev (fun k=>bW k a b) r/\P.Can WW r (gI n m):=by
 obtain ⟨r,h1,h2⟩:=P.Di la lb ha hb
 exact ⟨r,Ev.step (fun k=>Dj k a b) h1,h2⟩
theorem Ai (hn:a.length<17179869184) (ha:P.Can WW a n) (hb:P.Can WW b m) (hm:0<m):∃ q r,Ev (fun k=>aJ k a b) (q,r,())/\P.Can WW q (n / m)/\P.Can WW r (n % m):=by
 obtain ⟨q,r,h1,h2⟩:=P.k8 hn ha hb hm
 exact ⟨q,r,Ev.step (fun k=>wB k a b) (evmap (g:=fun r:List Int×List Int=>(r.1,r.2,())) h1),h2⟩
theorem EC {x y:Int} (hy:0<y):0<gI x y:=by
 unfold P.gI
 have:=Int.gcd_pos_of_ne_zero_right x (show y≠0 by omega)
 omega
theorem JH {l:List Int} {z:Int} (h:P.Can WW l z) (hz:0<z) (h1:z≠1):(bif (List.length l:Int) != (1:Int) then some true else if 0<=(0:Int)/\(0:Int)<(List.length l:Int) then some ((dM (t:=(.int .u32)) l (0:Int):Int) != (1:Int)) else none)=some true:=by
 match l,h with
 | [],h=>rfl
 | [x],h =>
  have hx:x=z:=by have:=h.2.2;simp [vl] at this;exact this
  have hr:(dM (t:=(.int .u32)) [x] (0:Int):Int)=x:=rfl
  rw [hr]
  have:(x != (1:Int))=true:=by simp;omega
  rw [this]
  simp
 | x :: y :: t,h =>
  have:((List.length (x :: y :: t):Int) != (1:Int))=true:=by simp;omega
  rw [this]
  rfl
theorem Hy {l:List Int} {z:Int} (h:P.Can WW l z) (hz:z=1):(bif (List.length l:Int) != (1:Int) then some true else if 0<=(0:Int)/\(0:Int)<(List.length l:Int) then some ((dM (t:=(.int .u32)) l (0:Int):Int) != (1:Int)) else none)=some false:=by
 subst hz
 rw [bH aE h (BI bE)]
 rfl
theorem tD:Ev (fun k=>lK k) (false,[],[1],()):=Ev.step (fun k=>AG k) (aZ _)
theorem mA {B:Int} (hB:0<B) {l:List Int} {x:Int} (h:P.Can B l x) (hx:x≠0):((List.length l:Int)==(0:Int))=false:=by
 have:=h.iV hB
 have:l.length≠0:=fun e=>hx (this.1 e)
 simp
 intro e
 exact this (by simp [e])
theorem Ds {B:Int} (hB:0<B) {l:List Int} {x:Int} (h:P.Can B l x) (hx:x=0):l=[]:=(h.yF hB).2 hx
theorem jF {s:Bool} (la:a.length<1073741824) (lb:b.length<1073741824) (ha:P.Can WW a n) (hb:P.Can WW b m) (hm:0<m):∃ r,Ev (fun k=>dL k s a b) r/\RB WW r (Rat.divInt (sg s n) m):=by
 have n0:=ha.fH aE
 by_cases hn:n=0
 ·obtain rfl:=Ds aE ha hn
  refine ⟨_,Ev.step (fun k=>n7 k s [] b) (bT rfl (Ev.bind tD (aZ _))),?_⟩
  rw [hn,xB]
  exact tZ bE
 obtain ⟨g,g1,g2⟩:=q_GCD la lb ha hb
 have gp:=EC (x:=n) hm
 have fin:∀ {u v:List Int},u.length<=a.length->v.length<=b.length->P.Can WW u (n / gI n m)->P.Can WW v (m / gI n m)->Ev (fun k=>dL.j0 k s u v (false,[],[],())) (s,u,v,()):=fun h1 h2 _ _=>by
  unfold dL.j0
  exact iT Ky (iT Ky (aZ _))
 by_cases h1:gI n m=1
 ·have e1:n / gI n m=n:=by rw [h1];omega
  have e2:m / gI n m=m:=by rw [h1];omega
  have ca:P.Can WW a (n / gI n m):=by rw [e1];exact ha
  have cb:P.Can WW b (m / gI n m):=by rw [e2];exact hb
  exact ⟨_,Ev.step (fun k=>n7 k s a b) (bF (mA aE ha hn) (Ev.bind g1 (Ev.bind (jQ (Hy g2 h1)) (bF rfl (fin (Nat.le_refl _) (Nat.le_refl _) ca cb))))),qC Ky hm ca cb⟩
 obtain ⟨u,u',u1,u2,u3⟩:=Ai Ky ha g2 gp
 obtain ⟨v,v',v1,v2,v3⟩:=Ai Ky hb g2 gp
 have lu:u.length<=a.length:=u2.fZ bE (Int.lt_of_le_of_lt (Int.ediv_le_self _ n0) (ha.lt aE))
 have lv:v.length<=b.length:=v2.fZ bE (Int.lt_of_le_of_lt (Int.ediv_le_self _ Ky) (hb.lt aE))
 exact ⟨_,Ev.step (fun k=>n7 k s a b) (bF (mA aE ha hn) (Ev.bind g1 (Ev.bind (jQ (JH g2 gp h1)) (bT rfl (Ev.bind u1 (Ev.bind v1 (fin lu lv u2 v2))))))),qC Ky hm u2 v2⟩
end
section
variable {v w:aI} {p q:Rat} {K L:Nat}
theorem GW (s t:Bool) (x y:Int):sg (s != t) (x*y)=sg s x*sg t y:=by
 unfold sg
 cases s<;>cases t<;>simp [Int.neg_mul,Int.mul_neg]
theorem me (s:Bool) (x y:Int):sg s x*y=sg s (x*y):=by
 unfold sg
 cases s<;>simp [Int.neg_mul]
theorem fU {x y:Int} (hx:0<x) (hy:0<y):0<x*y:=Int.mul_pos hx hy
theorem kn (hv:RB WW v p) (hw:RB WW w q) (hp:Sz WW K p) (hq:Sz WW L q) (h:K+L<1073741824):∃ r,Ev (fun k=>iw k v w) r/\RB WW r (p*q)/\Sz WW (K+L) (p*q):=by
 obtain ⟨lv1,lv2⟩:=fY bE hv hp
 obtain ⟨lw1,lw2⟩:=fY bE hw hq
 obtain ⟨x,x1,x2,x3⟩:=Ah Ky hv.2.1 hw.2.1
 obtain ⟨y,y1,y2,y3⟩:=Ah Ky hv.2.2 hw.2.2
 have hd:(0:Int)<(p.den:Int)*q.den:=fU (eJ p) (eJ q)
 obtain ⟨r,r1,r2⟩:=jF (s:=v.1 != w.1) Ky Ky x2 y2 hd
 have e:Rat.divInt (sg (v.1 != w.1) ((p.num.natAbs:Int)*q.num.natAbs)) ((p.den:Int)*q.den)=p*q:=by
  rw [GW,kX hv,kX hw,<- Rat.divInt_mul_divInt,Rat.num_divInt_den,Rat.num_divInt_den]
 have hs:Sz WW (K+L) (p*q):=by
  rw [<- e]
  refine DX (Int.mul_nonneg Ky Ky) hd ?_ ?_
  ·exact Int.lt_of_lt_of_le (x2.lt aE) (P.eV (by decide) Ky)
  exact Int.lt_of_lt_of_le (y2.lt aE) (P.eV (by decide) Ky)
 rw [e] at r2
 exact ⟨r,Ev.step (fun k=>C6 k v w) (Ev.bind x1 (Ev.bind y1 (Ev.bind r1 (aZ _)))),r2,hs⟩
theorem y9 {s t:Bool} (h:¬ s=t):(s==t)=false:=by cases s<;>cases t<;>simp_all
theorem xp {x y d:List Int} {X Y D:Int} {s t:Bool} {u u' c:aI} (hu:u.1=s) (hu':u'.1=t) (lx:x.length<536870912) (ly:y.length<536870912) (ld:d.length<1073741824) (hx:P.Can WW x X) (hy:P.Can WW y Y) (hd:P.Can WW d D) (hD:0<D) :
 ∃ r,Ev (fun k=>fE.j0 k x y d u u' c) r/\RB WW r (Rat.divInt (sg s X+sg t Y) D):=by
 by_cases hst:s=t
 ·obtain ⟨z,z1,z2,z3⟩:=q_Add Ky Ky hx hy
  obtain ⟨r,r1,r2⟩:=jF (s:=s) Ky ld z2 hd hD
  refine ⟨r,?_,?_⟩
  ·unfold fE.j0
   rw [hu,hu']
   exact bT (by subst hst;simp) (Ev.bind z1 (Ev.bind r1 (aZ _)))
  have:sg s X+sg t Y=sg s (X+Y):=by subst hst;unfold sg;cases s<;>simp<;>omega
  rw [this]
  exact r2
 have hc:=q_Cmp Ky hx hy
 by_cases hxy:Y<=X
 ·obtain ⟨z,z1,z2,z3⟩:=q_Sub Ky hx hy hxy
  obtain ⟨r,r1,r2⟩:=jF (s:=s) Ky ld z2 hd hD
  refine ⟨r,?_,?_⟩
  ·unfold fE.j0
   rw [hu,hu']
   refine bF (y9 hst) (Ev.bind hc (bT (decide_eq_true ?_) (Ev.bind z1 (Ev.bind r1 (aZ _)))))
   unfold P.dA
   split
   ·omega
   split<;>omega
  have:sg s X+sg t Y=sg s (X-Y):=by
   unfold sg
   cases s<;>cases t<;>simp at hst ⊢<;>omega
  rw [this]
  exact r2
 obtain ⟨z,z1,z2,z3⟩:=q_Sub Ky hy hx Ky
 obtain ⟨r,r1,r2⟩:=jF (s:=t) Ky ld z2 hd hD
 refine ⟨r,?_,?_⟩
 ·unfold fE.j0
  rw [hu,hu']
  refine bF (y9 hst) (Ev.bind hc (bF (decide_eq_false ?_) (Ev.bind z1 (Ev.bind r1 (aZ _)))))
  unfold P.dA
  rw [if_pos Ky]
  omega
 have:sg s X+sg t Y=sg t (Y-X):=by
  unfold sg
  cases s<;>cases t<;>simp at hst ⊢<;>omega
 rw [this]
 exact r2
theorem oG (p q:Rat):p+q=Rat.divInt (p.num*q.den+q.num*p.den) ((p.den:Int)*q.den):=by
 have h:=Rat.divInt_add_divInt p.num q.num (d₁:=(p.den:Int)) (d₂:=(q.den:Int)) (by have:=eJ p;omega) (by have:=eJ q;omega)
 rw [Rat.num_divInt_den,Rat.num_divInt_den] at h
 exact h
theorem Ge (p q:Rat) (h:p.den=q.den):p+q=Rat.divInt (p.num+q.num) (p.den:Int):=by
 rw [oG,<- h,<- Int.add_mul]
 exact Rat.divInt_mul_right (by have:=eJ p;omega)
theorem Cc (hp:Sz WW K p) (hq:Sz WW L q):Sz WW (K+L+1) (p+q):=by
 have hK:(0:Int)<WW ^ K:=Int.pow_pos (by decide)
 have hL:(0:Int)<WW ^ L:=Int.pow_pos (by decide)
 have e:(WW:Int) ^ (K+L+1)=WW ^ K*WW ^ L*4294967296:=by rw [Int.pow_succ,Int.pow_add]
 obtain ⟨p1,p2⟩:=hp
 obtain ⟨q1,q2⟩:=hq
 have dp:=eJ p
 have dq:=eJ q
 have a1:(p.num.natAbs:Int)*q.den<=WW ^ K*WW ^ L:=Int.mul_le_mul Ky Ky Ky Ky
 have a2:(q.num.natAbs:Int)*p.den<=WW ^ L*WW ^ K:=Int.mul_le_mul Ky Ky Ky Ky
 have a3:(p.den:Int)*q.den<=WW ^ K*WW ^ L:=Int.mul_le_mul Ky Ky Ky Ky
 rw [Int.mul_comm (WW ^ L)] at a2
 have hKL:(0:Int)<WW ^ K*WW ^ L:=fU hK hL
 have hn:((p.num*q.den+q.num*p.den).natAbs:Int)<=(p.num.natAbs:Int)*q.den+(q.num.natAbs:Int)*p.den:=by
  have h1:=Int.natAbs_add_le (p.num*q.den) (q.num*p.den)
  rw [Int.natAbs_mul,Int.natAbs_mul] at h1
  simp only [Int.natAbs_natCast] at h1
  have:((p.num.natAbs*q.den+q.num.natAbs*p.den:Nat):Int)=(p.num.natAbs:Int)*q.den+(q.num.natAbs:Int)*p.den:=by
   rw [Int.natCast_add,Int.natCast_mul,Int.natCast_mul]
  omega
 rw [oG]
 constructor
 ·rw [Rat.num_divInt,Int.sign_eq_one_of_pos (fU dp dq),Int.one_mul]
  have:((p.num*q.den+q.num*p.den) / ((((p.den:Int)*q.den).gcd (p.num*q.den+q.num*p.den):Nat):Int)).natAbs<=(p.num*q.den+q.num*p.den).natAbs:=by
   rw [Int.natAbs_ediv_of_dvd (Int.gcd_dvd_right ..)]
   exact Nat.div_le_self ..
  omega
 rw [Rat.den_divInt,if_neg (by have:=fU dp dq;omega)]
 have:((p.den:Int)*q.den).natAbs / (((p.den:Int)*q.den).gcd (p.num*q.den+q.num*p.den))<=((p.den:Int)*q.den).natAbs:=Nat.div_le_self ..
 have:=fU dp dq
 omega
theorem pR (hv:RB WW v p) (hw:RB WW w q) (hp:Sz WW K p) (hq:Sz WW L q) (h:K+L<268435456):∃ r,Ev (fun k=>fE k v w) r/\RB WW r (p+q)/\Sz WW (K+L+1) (p+q):=by
 obtain ⟨lv1,lv2⟩:=fY bE hv hp
 obtain ⟨lw1,lw2⟩:=fY bE hw hq
 have hc:=q_Cmp Ky hv.2.2 hw.2.2
 refine (show ∃ r,Ev (fun k=>fE k v w) r/\RB WW r (p+q) from ?_).elim fun r hr=>⟨r,hr.1,hr.2,Cc hp hq⟩
 by_cases hd:(p.den:Int)=q.den
 ·obtain ⟨r,r1,r2⟩:=xp (c:=(false,[],[],())) (u:=v) (u':=w) rfl rfl Ky Ky Ky hv.2.1 hw.2.1 hv.2.2 (eJ p)
  rw [kX hv,kX hw,<- Ge p q Ky] at r2
  refine ⟨r,Ev.step (fun k=>u5 k v w) (Ev.bind hc (bF ?_ r1)),r2⟩
  unfold P.dA
  rw [if_neg Ky,if_pos hd]
  rfl
 obtain ⟨x,x1,x2,x3⟩:=Ah Ky hv.2.1 hw.2.2
 obtain ⟨y,y1,y2,y3⟩:=Ah Ky hw.2.1 hv.2.2
 obtain ⟨d,d1,d2,d3⟩:=Ah Ky hv.2.2 hw.2.2
 obtain ⟨r,r1,r2⟩:=xp (c:=(false,[],[],())) (u:=v) (u':=w) rfl rfl Ky Ky Ky x2 y2 d2 (fU (eJ p) (eJ q))
 rw [<- me,<- me,kX hv,kX hw,<- oG p q] at r2
 refine ⟨r,Ev.step (fun k=>u5 k v w) (Ev.bind hc (bT ?_ (Ev.bind x1 (Ev.bind y1 (Ev.bind d1 r1))))),r2⟩
 unfold P.dA
 split
 ·rfl
 rfl
end
section
variable {v w:aI} {p q:Rat} {K L:Nat}
theorem AL (hv:RB WW v p) (hp:Sz WW K p) (h:K<1073741824):Ev (fun k=>uZ k v) v:=by
 obtain ⟨lv1,lv2⟩:=fY bE hv hp
 obtain ⟨s,a,b,_⟩:=v
 exact Ev.step (fun k=>AM k _) (iT (by simp at lv1 ⊢;omega) (iT (by simp at lv2 ⊢;omega) (aZ _)))
def Gh (q:Rat):Int:=if q<0 then -1 else if q=0 then 0 else 1
theorem tC {q:Rat}:q.num<0↔q<0:=by
 rw [Rat.lt_iff]
 simp
theorem JR {B:Int} (hB:0<B) (hv:RB B v p):((List.length v.2.1:Int)==(0:Int))=decide (p=0):=by
 by_cases c:p=0
 ·rw [Ds hB hv.2.1 (by rw [c];rfl),decide_eq_true c]
  rfl
 rw [decide_eq_false c]
 exact mA hB hv.2.1 (fun e=>c (Rat.num_eq_zero.1 Ky))
theorem tE (hv:RB WW v p):Ev (fun k=>iS k v) (Gh p):=by
 refine Ev.step (fun k=>kL k v) ?_
 rw [JR aE hv,hv.1]
 unfold Gh
 by_cases c:p=0
 ·refine bT (decide_eq_true c) ?_
  rw [if_neg (by rw [c];exact Rat.lt_irrefl),if_pos c]
  exact aZ _
 refine bF (decide_eq_false c) ?_
 by_cases d:p<0
 ·rw [if_pos d]
  exact bT (decide_eq_true (tC.2 d)) (aZ _)
 rw [if_neg d,if_neg c]
 exact bF (decide_eq_false (fun e=>d (tC.1 e))) (aZ _)
theorem GV (p:Rat):(Gh p = -1/\p<0)∨(Gh p=0/\p=0)∨(Gh p=1/\0<p):=by
 unfold Gh
 by_cases c:p<0
 ·exact .inl ⟨if_pos c,c⟩
 by_cases d:p=0
 ·exact .inr (.inl ⟨by rw [if_neg c,if_pos d],d⟩)
 exact .inr (.inr ⟨by rw [if_neg c,if_neg d],Rat.lt_of_le_of_ne (Rat.not_lt.1 c) (Ne.symm d)⟩)
end
section
variable {v w:aI} {p q:Rat} {K L:Nat}
theorem DC (x:Int):Rat.divInt x 1=(x:Rat):=by rw [Rat.divInt_eq_div];simp;grind
theorem C4:Ev (fun k=>yE k) (false,[1],[1],()):=by
 obtain ⟨x,x1,x2⟩:=P.gA (a:=1) (by decide) (by decide)
 obtain rfl:=bH aE x2 (BI bE)
 obtain ⟨r,r1,r2⟩:=jF (s:=false) Kz Kz (BI bE) (BI bE) (by decide)
 have e:Rat.divInt (sg false 1) 1=1:=by rw [DC];rfl
 rw [e] at r2
 rw [Ea aE (CC bE) r2]
 refine Ev.step (fun k=>C5 k) (Ev.bind (Ev.step (fun k=>C7 k 1) (bF (by decide) (Ev.bind (Ev.step (fun k=>AZ k _) (by rw [u64 (by decide) (by decide)];exact x1)) (Ev.bind r1 (aZ _))))) (aZ _))
theorem sz_one {B:Int} (h:1<B) {K:Nat} (hK:1<=K):Sz B K 1:=eN Ky (qx Ky (CC h) (K:=1) Kz Kz) hK
theorem AJ (hv:RB WW v p) (N:Nat):∃ t,Ev (fun k=>iU k v (N:Int)) t/\(t=true↔Sz WW N p):=by
 refine ⟨decide (v.2.1.length<=N)&&decide (v.2.2.1.length<=N),Ev.step (fun k=>kM k v _) (Ev.bind ?_ (aZ _)),?_⟩
 ·by_cases c:v.2.1.length<=N
  ·rw [decide_eq_true c]
   refine bT (decide_eq_true Ky) ?_
   have:decide ((List.length v.2.2.1:Int)<=N)=(true&&decide (v.2.2.1.length<=N)):=by
    rw [Bool.true_and];exact decide_eq_decide.2 Ky
   rw [this]
   exact aZ _
  rw [decide_eq_false c]
  exact bF (decide_eq_false Ky) (aZ _)
 rw [Bool.and_eq_true,decide_eq_true_eq,decide_eq_true_eq]
 exact ⟨fun h=>qx aE hv h.1 h.2,fun h=>fY bE hv h⟩
end
open Go.Proofs.YtfbgaddecbiimaaGreatDoor.P (aX)
def aV {α:Type} (g:Nat->Nat->Option α) (r:α):Prop:=∃ K,∀ k m,K<=k->K<=m->g k m=some r
section
variable {α β:Type} {g f:Nat->Nat->Option α} {r:α}
theorem aV.diag (h:aV g r):Ev (fun k=>g k k) r:=by
 obtain ⟨K,h⟩:=h
 exact ⟨K,fun k hk=>h k k hk hk⟩
theorem aV.step (h:∀ k m,g k (m+1)=f k m) (k:aV f r):aV g r:=by
 obtain ⟨K,k⟩:=k
 refine ⟨K+1,fun n m hn hm=>?_⟩
 obtain ⟨q,rfl⟩:∃ q,m=q+1:=⟨m-1,Ky⟩
 rw [h]
 exact k n q Ky Ky
theorem aV.bind {g:Nat->Option β} {f:Nat->Nat->β->Option α} {a:β} (h:Ev g a) (k:aV (fun n m=>f n m a) r):aV (fun n m=>(g n).bind (f n m)) r:=by
 obtain ⟨K,h⟩:=h
 obtain ⟨K',k⟩:=k
 refine ⟨max K K',fun n m hn hm=>?_⟩
 have h1:=h n Ky
 simp only [h1,Option.bind_some]
 exact k n m Ky Ky
theorem aV.bT {c:Bool} (hc:c=true) (h:aV f r):aV (fun k m=>bif c then f k m else g k m) r:=by subst hc;exact h
theorem aV.bF {c:Bool} (hc:c=false) (h:aV g r):aV (fun k m=>bif c then f k m else g k m) r:=by subst hc;exact h
theorem aV.iT {c:Prop} [Decidable c] (hc:c) (h:aV f r):aV (fun k m=>if c then f k m else none) r:=by simpa only [if_pos hc] using h
theorem aV.of {g:Nat->Option α} (h:Ev g r):aV (fun k _=>g k) r:=by
 obtain ⟨K,h⟩:=h
 exact ⟨K,fun k m hk _=>h k hk⟩
end
theorem cM:(1:Int)<RR:=by decide
section
variable {a b:List Int} {n m:Int}
theorem zV (hn:a.length+b.length<68719476736) (ha:P.Can RR a n) (hb:P.Can RR b m):∃ r,Ev (fun k=>au k a b) r/\P.Can RR r (n*m)/\r.length<=a.length+b.length:=by
 obtain ⟨r,h1,h2⟩:=P.Af hn ha hb
 exact ⟨r,Ev.step (fun k=>nk k a b) h1,h2⟩
theorem s_Add (hn:a.length+b.length<68719476736) (ha:P.Can RR a n) (hb:P.Can RR b m):∃ r,Ev (fun k=>aA k a b) r/\P.Can RR r (n+m)/\r.length<=max a.length b.length+1:=by
 obtain ⟨r,h1,h2⟩:=P.Hh hn ha hb
 exact ⟨r,Ev.step (fun k=>nC k a b) h1,h2⟩
theorem s_Sub (hn:a.length<68719476736) (ha:P.Can RR a n) (hb:P.Can RR b m) (hle:m<=n):∃ r,Ev (fun k=>aM k a b) r/\P.Can RR r (n-m)/\r.length<=a.length:=by
 obtain ⟨r,h1,h2⟩:=P.Ae hn ha hb hle
 exact ⟨r,Ev.step (fun k=>ni k a b) h1,h2⟩
theorem s_Cmp (hn:a.length<4611686018427387904) (ha:P.Can RR a n) (hb:P.Can RR b m):Ev (fun k=>aK k a b) (dA n m):=Ev.step (fun k=>nB k a b) (P.dK hn ha hb)
theorem s_GCD (la:a.length<1073741824) (lb:b.length<1073741824) (ha:P.Can RR a n) (hb:P.Can RR b m):∃ r,Ev (fun k=>ay k a b) r/\P.Can RR r (gI n m):=by
 obtain ⟨r,h1,h2⟩:=P.Hg la lb ha hb
 exact ⟨r,Ev.step (fun k=>nu k a b) h1,h2⟩
theorem zW (hn:a.length<1073741824) (hb:b.length<1073741824) (ha:P.Can RR a n) (cb:P.Can RR b m) (hm:0<m):∃ q r,Ev (fun k=>aG k a b) (q,r,())/\P.Can RR q (n / m)/\P.Can RR r (n % m):=by
 obtain ⟨q,r,h1,h2,h3,_⟩:=P.tk hn hb ha cb hm
 exact ⟨q,r,Ev.step (fun k=>lg k a b) (evmap (g:=fun r:List Int×List Int=>(r.1,r.2,())) h1),h2,h3⟩
theorem D1 (hn:a.length<1073741824) (ha:P.Can RR a n):∃ r,Ev (fun k=>aD k a) r/\P.Can WW r n:=by
 obtain ⟨r,h1,h2⟩:=P.CF hn ha
 exact ⟨r,Ev.step (fun k=>lR k a) h1,h2⟩
theorem D3 {k0 c0:Int} (hn:a.length<549755813888) (ha:P.Can RR a n) (hk:0<=k0/\k0<=65536) (hc:0<=c0/\c0<=65536):∃ r,Ev (fun k=>ax k a k0 c0) r/\P.Can RR r (n*k0+c0)/\r.length<=a.length+2:=by
 obtain ⟨r,h1,h2⟩:=P.jf hn ha hk hc
 exact ⟨r,Ev.step (fun k=>lT k a k0 c0) h1,h2⟩
theorem s_Pow {v:Int} (hl:a.length<=16) (ha:P.Can RR a v) (N:Nat) (hN:N<=1000):∃ r,Ev (fun k=>bb k a (N:Int)) r/\P.Can RR r (v ^ N)/\r.length<=16*N+1:=by
 obtain ⟨r,h1,h2⟩:=P.Hc hl ha N hN
 exact ⟨r,Ev.step (fun k=>nj k a _) h1,h2⟩
theorem rdT_rd (l:List Int) (i:Int):(dM (t:=(.int .u32)) l i:Int)=rd l i:=rfl
theorem Jt {a:List Int} (hn:a.length<137438953472) (ha:Dg WW a) (d:Nat):∀ (i:Nat) (o:List Int),i=d->i<=a.length->P.Can RR o (vl WW (a.drop i))->o.length<=4*(a.length-i)->∃ r,aV (fun k m=>bO.l0 k m a o ((i:Int)-1)) r/\P.Can RR r (vl WW a)/\r.length<=4*a.length:=by
 induction d with
 | zero =>
  rintro i o rfl h1 h2 h3
  exact ⟨o,aV.step (fun k m=>bO.ba k m _ _ _) (aV.bF (decide_eq_false Ky) (aV.of (aZ _))),by simpa using h2,Ky⟩
 | succ d ih =>
  rintro i o rfl h1 h2 h3
  have e1:(((d+1:Nat):Int)-1)=(d:Int):=Ky
  have hx:=P.di ha (d:Int) Ky Ky
  rw [P.cE] at hx
  obtain ⟨p,h4,h5,h6⟩:=D3 (k0:=65536) (c0:=rd a d / 65536) Ky h2 Ky Ky
  obtain ⟨q,h7,h8,h9⟩:=D3 (k0:=65536) (c0:=rd a d % 65536) Ky h5 Ky Ky
  have ea:a.drop d=rd a d :: a.drop (d+1):=by rw [P.ki a d Ky];exact (List.drop_eq_getElem_cons Ky)
  have ev:(vl WW (a.drop (d+1))*65536+rd a d / 65536)*65536+rd a d % 65536=vl WW (a.drop d):=by
   rw [ea,vl,P.cE]
   omega
  rw [ev] at h8
  obtain ⟨r,h10,h11⟩:=ih d q rfl Ky h8 Ky
  refine ⟨r,aV.step (fun k m=>bO.ba k m _ _ _) ?_,h11⟩
  have e2:shr .u32 (rd a (d:Int)) 16=rd a d / 65536:=rfl
  rw [e1]
  simp only [rdT_rd]
  rw [e2,P.and16 hx.1 hx.2,cn (x:=rd a d / 65536) Ky Ky,cn (x:=rd a d % 65536) Ky Ky,cn (x:=(d:Int)-1) Ky Ky]
  exact aV.bT (decide_eq_true Ky) (aV.iT Ky (aV.bind h4 (aV.iT Ky (aV.bind h7 h10))))
theorem Ju {a:List Int} {n:Int} (hn:a.length<137438953472) (ha:P.Can WW a n):∃ r,Ev (fun k=>bO k a) r/\P.Can RR r n/\r.length<=4*a.length:=by
 obtain ⟨r,h1,h2⟩:=Jt hn ha.1 a.length a.length [] rfl (Nat.le_refl _) (by rw [List.drop_length];exact P.Can.zero _) Kz
 rw [ha.2.2] at h2
 refine ⟨r,Ev.step (fun k=>ov k a) ?_,h2⟩
 rw [cn (x:=(a.length:Int)-1) Ky Ky]
 exact h1.diag
end
section
variable {a b:List Int} {n m:Int} {v w:aI} {p q:Rat} {K L:Nat}
theorem vz {l:List Int} {z:Int} (h:P.Can RR l z):(bif (List.length l:Int)==(1:Int) then if 0<=(0:Int)/\(0:Int)<(List.length l:Int) then some ((dM (t:=(.int .i64)) l (0:Int):Int)==(1:Int)) else none else some false)=some (decide (z=1)):=by
 match l,h with
 | [],h =>
  have:z=0:=by have:=h.2.2;simp [vl] at this;exact this.symm
  subst this
  rfl
 | [x],h =>
  have hx:x=z:=by have:=h.2.2;simp [vl] at this;exact this
  have hr:(dM (t:=(.int .i64)) [x] (0:Int):Int)=x:=rfl
  rw [hr,hx]
  simp
  by_cases c:z=1<;>simp [c]
 | x :: y :: t,h =>
  have h1:((List.length (x :: y :: t):Int)==(1:Int))=false:=by simp;omega
  have h2:RR<=z:=by
   have:=h.ge aX Kz
   refine Int.le_trans ?_ this
   have:=P.eV (B:=RR) (by decide) (i:=1) (j:=(x :: y :: t).length-1) Kz
   rw [Int.pow_succ,Int.pow_zero,Int.one_mul] at this
   exact this
  have:RR=10000:=rfl
  rw [h1,decide_eq_false Ky]
  rfl
theorem yL {l:List Int} {z:Int} (h:P.Can WW l z):(bif (List.length l:Int)==(1:Int) then if 0<=(0:Int)/\(0:Int)<(List.length l:Int) then some ((dM (t:=(.int .u32)) l (0:Int):Int)==(1:Int)) else none else some false)=some (decide (z=1)):=by
 match l,h with
 | [],h =>
  have:z=0:=by have:=h.2.2;simp [vl] at this;exact this.symm
  subst this
  rfl
 | [x],h =>
  have hx:x=z:=by have:=h.2.2;simp [vl] at this;exact this
  have hr:(dM (t:=(.int .u32)) [x] (0:Int):Int)=x:=rfl
  rw [hr,hx]
  simp
  by_cases c:z=1<;>simp [c]
 | x :: y :: t,h =>
  have h1:((List.length (x :: y :: t):Int)==(1:Int))=false:=by simp;omega
  have h2:WW<=z:=by
   have:=h.ge aE Kz
   refine Int.le_trans ?_ this
   have:=P.eV (B:=WW) (by decide) (i:=1) (j:=(x :: y :: t).length-1) Kz
   rw [Int.pow_succ,Int.pow_zero,Int.one_mul] at this
   exact this
  have:WW=4294967296:=rfl
  rw [h1,decide_eq_false Ky]
  rfl
theorem th:Ev (fun k=>e8 k) (false,[],[1],()):=Ev.step (fun k=>mC k) (aZ _)
theorem kG {s:Bool} (la:a.length<1073741824) (lb:b.length<1073741824) (ha:P.Can RR a n) (hb:P.Can RR b m) (hm:0<m):∃ r,Ev (fun k=>dY k s a b) r/\RB RR r (Rat.divInt (sg s n) m):=by
 have n0:=ha.fH aX
 by_cases hn:n=0
 ·obtain rfl:=Ds aX ha hn
  refine ⟨_,Ev.step (fun k=>fa k s [] b) (bT rfl (Ev.bind th (aZ _))),?_⟩
  rw [hn,xB]
  exact tZ cM
 have done:gI n m=1->RB RR (s,a,b,()) (Rat.divInt (sg s n) m):=fun h1=>by
  have e1:n / gI n m=n:=by rw [h1];omega
  have e2:m / gI n m=m:=by rw [h1];omega
  exact qC Ky hm (by rw [e1];exact ha) (by rw [e2];exact hb)
 by_cases hm1:m=1
 ·refine ⟨(s,a,b,()),Ev.step (fun k=>fa k s a b) (bF (mA aX ha hn) (Ev.bind (jQ (vz hb)) (bT (decide_eq_true hm1) (aZ _)))),done ?_⟩
  unfold P.gI
  rw [hm1]
  simp
 obtain ⟨g,g1,g2⟩:=s_GCD la lb ha hb
 have gp:=EC (x:=n) hm
 by_cases h1:gI n m=1
 ·exact ⟨(s,a,b,()),Ev.step (fun k=>fa k s a b) (bF (mA aX ha hn) (Ev.bind (jQ (vz hb)) (bF (decide_eq_false hm1) (Ev.bind g1 (Ev.bind (jQ (vz g2)) (bT (decide_eq_true h1) (aZ _))))))),done h1⟩
 have gl:g.length<1073741824:=Nat.lt_of_le_of_lt (g2.fZ cM (Int.lt_of_le_of_lt (P.gI_le hm) (hb.lt aX))) lb
 obtain ⟨u,u',u1,u2,u3⟩:=zW la gl ha g2 gp
 obtain ⟨v,v',v1,v2,v3⟩:=zW lb gl hb g2 gp
 exact ⟨(s,u,v,()),Ev.step (fun k=>fa k s a b) (bF (mA aX ha hn) (Ev.bind (jQ (vz hb)) (bF (decide_eq_false hm1) (Ev.bind g1 (Ev.bind (jQ (vz g2)) (bF (decide_eq_false h1) (Ev.bind u1 (Ev.bind v1 (aZ _)))))))))
,qC Ky hm u2 v2⟩
theorem uG (hv:RB RR v p) (hw:RB RR w q) (hp:Sz RR K p) (hq:Sz RR L q) (h:K+L<1073741824):∃ r,Ev (fun k=>ff k v w) r/\RB RR r (p*q)/\Sz RR (K+L) (p*q):=by
 obtain ⟨lv1,lv2⟩:=fY cM hv hp
 obtain ⟨lw1,lw2⟩:=fY cM hw hq
 obtain ⟨x,x1,x2,x3⟩:=zV Ky hv.2.1 hw.2.1
 obtain ⟨y,y1,y2,y3⟩:=zV Ky hv.2.2 hw.2.2
 have hd:(0:Int)<(p.den:Int)*q.den:=fU (eJ p) (eJ q)
 obtain ⟨r,r1,r2⟩:=kG (s:=v.1 != w.1) Ky Ky x2 y2 hd
 have e:Rat.divInt (sg (v.1 != w.1) ((p.num.natAbs:Int)*q.num.natAbs)) ((p.den:Int)*q.den)=p*q:=by
  rw [GW,kX hv,kX hw,<- Rat.divInt_mul_divInt,Rat.num_divInt_den,Rat.num_divInt_den]
 have hs:Sz RR (K+L) (p*q):=by
  rw [<- e]
  refine DX (Int.mul_nonneg Ky Ky) hd ?_ ?_
  ·exact Int.lt_of_lt_of_le (x2.lt aX) (P.eV (by decide) Ky)
  exact Int.lt_of_lt_of_le (y2.lt aX) (P.eV (by decide) Ky)
 rw [e] at r2
 exact ⟨r,Ev.step (fun k=>nh k v w) (Ev.bind x1 (Ev.bind y1 (Ev.bind r1 (aZ _)))),r2,hs⟩
theorem Jk (hp:Sz RR K p) (hq:Sz RR L q):Sz RR (K+L+1) (p+q):=by
 have hK:(0:Int)<RR ^ K:=Int.pow_pos (by decide)
 have hL:(0:Int)<RR ^ L:=Int.pow_pos (by decide)
 have e:(RR:Int) ^ (K+L+1)=RR ^ K*RR ^ L*10000:=by rw [Int.pow_succ,Int.pow_add]
 obtain ⟨p1,p2⟩:=hp
 obtain ⟨q1,q2⟩:=hq
 have dp:=eJ p
 have dq:=eJ q
 have a1:(p.num.natAbs:Int)*q.den<=RR ^ K*RR ^ L:=Int.mul_le_mul Ky Ky Ky Ky
 have a2:(q.num.natAbs:Int)*p.den<=RR ^ L*RR ^ K:=Int.mul_le_mul Ky Ky Ky Ky
 have a3:(p.den:Int)*q.den<=RR ^ K*RR ^ L:=Int.mul_le_mul Ky Ky Ky Ky
 rw [Int.mul_comm (RR ^ L)] at a2
 have hKL:(0:Int)<RR ^ K*RR ^ L:=fU hK hL
 have hn:((p.num*q.den+q.num*p.den).natAbs:Int)<=(p.num.natAbs:Int)*q.den+(q.num.natAbs:Int)*p.den:=by
  have h1:=Int.natAbs_add_le (p.num*q.den) (q.num*p.den)
  rw [Int.natAbs_mul,Int.natAbs_mul] at h1
  simp only [Int.natAbs_natCast] at h1
  have:((p.num.natAbs*q.den+q.num.natAbs*p.den:Nat):Int)=(p.num.natAbs:Int)*q.den+(q.num.natAbs:Int)*p.den:=by
   rw [Int.natCast_add,Int.natCast_mul,Int.natCast_mul]
  omega
 rw [oG]
 constructor
 ·rw [Rat.num_divInt,Int.sign_eq_one_of_pos (fU dp dq),Int.one_mul]
  have:((p.num*q.den+q.num*p.den) / ((((p.den:Int)*q.den).gcd (p.num*q.den+q.num*p.den):Nat):Int)).natAbs<=(p.num*q.den+q.num*p.den).natAbs:=by
   rw [Int.natAbs_ediv_of_dvd (Int.gcd_dvd_right ..)]
   exact Nat.div_le_self ..
  omega
 rw [Rat.den_divInt,if_neg (by have:=fU dp dq;omega)]
 have:((p.den:Int)*q.den).natAbs / (((p.den:Int)*q.den).gcd (p.num*q.den+q.num*p.den))<=((p.den:Int)*q.den).natAbs:=Nat.div_le_self ..
 have:=fU dp dq
 omega
theorem uI (hv:RB RR v p) (hw:RB RR w q) (hp:Sz RR K p) (hq:Sz RR L q) (h:K+L<268435456):∃ r,Ev (fun k=>eD k v w) r/\RB RR r (p+q)/\Sz RR (K+L+1) (p+q):=by
 obtain ⟨lv1,lv2⟩:=fY cM hv hp
 obtain ⟨lw1,lw2⟩:=fY cM hw hq
 refine (show ∃ r,Ev (fun k=>eD k v w) r/\RB RR r (p+q) from ?_).elim fun r hr=>⟨r,hr.1,hr.2,Jk hp hq⟩
 obtain ⟨x,x1,x2,x3⟩:=zV Ky hv.2.1 hw.2.2
 obtain ⟨y,y1,y2,y3⟩:=zV Ky hw.2.1 hv.2.2
 obtain ⟨d,d1,d2,d3⟩:=zV Ky hv.2.2 hw.2.2
 have hD:=fU (eJ p) (eJ q)
 have hadd:=oG p q
 rw [<- kX hv,<- kX hw,me,me] at hadd
 generalize (p.num.natAbs:Int)*q.den=X at x2 hadd
 generalize (q.num.natAbs:Int)*p.den=Y at y2 hadd
 generalize (p.den:Int)*q.den=D at d2 hadd hD
 rw [hadd]
 by_cases hst:v.1=w.1
 ·obtain ⟨z,z1,z2,z3⟩:=s_Add Ky x2 y2
  obtain ⟨r,r1,r2⟩:=kG (s:=v.1) Ky Ky z2 d2 hD
  refine ⟨r,Ev.step (fun k=>gd k v w) (Ev.bind x1 (Ev.bind y1 (Ev.bind d1 (bT (by rw [hst];simp) (Ev.bind z1 (Ev.bind r1 (aZ _))))))),?_⟩
  have:sg v.1 X+sg w.1 Y=sg v.1 (X+Y):=by rw [<- hst];unfold sg;cases v.1<;>simp<;>omega
  rw [this]
  exact r2
 have hc:=s_Cmp Ky x2 y2
 by_cases hxy:Y<=X
 ·obtain ⟨z,z1,z2,z3⟩:=s_Sub Ky x2 y2 hxy
  obtain ⟨r,r1,r2⟩:=kG (s:=v.1) Ky Ky z2 d2 hD
  refine ⟨r,Ev.step (fun k=>gd k v w) (Ev.bind x1 (Ev.bind y1 (Ev.bind d1 (bF (y9 hst) (Ev.bind hc (bT (decide_eq_true ?_) (Ev.bind z1 (Ev.bind r1 (aZ _))))))))),?_⟩
  ·unfold P.dA
   split
   ·omega
   split<;>omega
  have:sg v.1 X+sg w.1 Y=sg v.1 (X-Y):=by
   unfold sg
   generalize v.1=s at hst ⊢
   generalize w.1=t at hst ⊢
   cases s<;>cases t<;>simp at hst ⊢<;>omega
  rw [this]
  exact r2
 obtain ⟨z,z1,z2,z3⟩:=s_Sub Ky y2 x2 Ky
 obtain ⟨r,r1,r2⟩:=kG (s:=w.1) Ky Ky z2 d2 hD
 refine ⟨r,Ev.step (fun k=>gd k v w) (Ev.bind x1 (Ev.bind y1 (Ev.bind d1 (bF (y9 hst) (Ev.bind hc (bF (decide_eq_false ?_) (Ev.bind z1 (Ev.bind r1 (aZ _))))))))),?_⟩
 ·unfold P.dA
  rw [if_pos Ky]
  omega
 have:sg v.1 X+sg w.1 Y=sg w.1 (Y-X):=by
  unfold sg
  generalize v.1=s at hst ⊢
  generalize w.1=t at hst ⊢
  cases s<;>cases t<;>simp at hst ⊢<;>omega
 rw [this]
 exact r2
theorem oO (hv:RB WW v p) (hp:Sz WW K p) (h:K<1073741824):∃ r,Ev (fun k=>dI k v) r/\RB RR r p/\Sz RR (4*K) p:=by
 obtain ⟨lv1,lv2⟩:=fY bE hv hp
 obtain ⟨x,x1,x2,x3⟩:=Ju Ky hv.2.1
 obtain ⟨y,y1,y2,y3⟩:=Ju Ky hv.2.2
 have hr:RB RR (v.1,x,y,()) p:=⟨hv.1,x2,y2⟩
 exact ⟨_,Ev.step (fun k=>ot k v) (Ev.bind x1 (Ev.bind y1 (aZ _))),hr,qx aX hr (by simp;omega) (by simp;omega)⟩
theorem Fm (hv:RB RR v p) (hp:Sz RR K p) (h:K<1073741824):∃ r,Ev (fun k=>iW k v) r/\RB WW r p:=by
 obtain ⟨lv1,lv2⟩:=fY cM hv hp
 obtain ⟨x,x1,x2⟩:=D1 Ky hv.2.1
 obtain ⟨y,y1,y2⟩:=D1 Ky hv.2.2
 exact ⟨(v.1,x,y,()),Ev.step (fun k=>oq k v) (Ev.bind x1 (Ev.bind y1 (aZ _))),hv.1,x2,y2⟩
theorem Eb (a b:List Int) (hn:a.length<4611686018427387904):∃ r,Ev (fun k=>aH k a b) r/\(r=true↔a=b):=by
 obtain ⟨r,h1,h2⟩:=P.eq_sp a b hn
 exact ⟨r,Ev.step (fun k=>jA k a b) h1,h2⟩
theorem z7 (v w:aI) (h1:v.2.1.length<4611686018427387904) (h2:v.2.2.1.length<4611686018427387904):Ev (fun k=>gU k v w) (decide (v=w)):=by
 obtain ⟨a,x,y,_⟩:=v
 obtain ⟨b,x',y',_⟩:=w
 obtain ⟨r,r1,r2⟩:=Eb x x' h1
 obtain ⟨s,s1,s2⟩:=Eb y y' h2
 have er:r=decide (x=x'):=by
  by_cases c:x=x'
  ·rw [decide_eq_true c];exact r2.2 c
  rw [decide_eq_false c];exact Bool.eq_false_iff.2 (fun e=>c (r2.1 e))
 have es:s=decide (y=y'):=by
  by_cases c:y=y'
  ·rw [decide_eq_true c];exact s2.2 c
  rw [decide_eq_false c];exact Bool.eq_false_iff.2 (fun e=>c (s2.1 e))
 have e:decide ((a,x,y,())=((b,x',y',()):aI))=((a==b)&&r&&s):=by
  rw [er,es]
  have:(a==b)=decide (a=b):=by cases a<;>cases b<;>rfl
  rw [this,<- Bool.decide_and,<- Bool.decide_and]
  refine decide_eq_decide.2 ?_
  simp [and_assoc]
 rw [e]
 refine Ev.step (fun k=>mD k _ _) (Ev.bind (a:=(a==b)&&r) ?_ (Ev.bind (a:=(a==b)&&r&&s) ?_ (aZ _)))
 ·by_cases c:(a==b)=true
  ·rw [c]
   exact bT rfl (Ev.bind r1 (by rw [Bool.true_and];exact aZ _))
  rw [Bool.eq_false_iff.2 c]
  exact bF rfl (aZ _)
 by_cases c:((a==b)&&r)=true
 ·rw [c]
  exact bT rfl (Ev.bind s1 (by rw [Bool.true_and];exact aZ _))
 rw [Bool.eq_false_iff.2 c]
 exact bF rfl (aZ _)
theorem Fp (hv:RB WW v p) (hw:RB RR w p) (hp:Sz RR K p) (h:K<1073741824) (hl:v.2.1.length<4611686018427387904) (hl':v.2.2.1.length<4611686018427387904):Ev (fun k=>eT k v w) true:=by
 obtain ⟨r,r1,r2⟩:=Fm hw hp h
 have e:=z7 v r hl hl'
 rw [decide_eq_true (Ea aE hv r2)] at e
 exact Ev.step (fun k=>ou k v w) (Ev.bind r1 (Ev.bind e (aZ _)))
end
def Arg (v:aI):Prop:=Dg WW v.2.1/\Dg WW v.2.2.1/\True/\True
def Vd (v:aI):Prop:=∃ q,RB WW v q/\Sz WW 4096 q
section
variable {v w:aI} {p q:Rat} {K L:Nat}
theorem Bs (q:Rat):gI (q.num.natAbs:Int) q.den=1:=by
 unfold P.gI
 have:=q.reduced
 unfold Nat.Coprime at this
 simp only [Int.gcd,Int.natAbs_natCast,this]
 rfl
theorem DT {s:Bool} {a b:List Int} (da:Dg WW a) (db:Dg WW b):(∃ q,RB WW (s,a,b,()) q)↔Nm a/\Nm b/\vl WW b≠0/\(vl WW a=0->s=false/\vl WW b=1)/\(vl WW a≠0->gI (vl WW a) (vl WW b)=1):=by
 constructor
 ·rintro ⟨q,h1,h2,h3⟩
  have e2:vl WW a=(q.num.natAbs:Int):=h2.2.2
  have e3:vl WW b=(q.den:Int):=h3.2.2
  have dp:=eJ q
  refine ⟨h2.2.1,h3.2.1,Ky,fun h=>?_,fun h=>?_⟩
  ·have h0:q=0:=Rat.num_eq_zero.1 Ky
   refine ⟨?_,?_⟩
   ·have:s=decide (q.num<0):=h1
    rw [this,h0];rfl
   rw [e3,h0];rfl
  rw [e2,e3]
  exact Bs q
 rintro ⟨na,nb,hb,h0,h1⟩
 have a0:=P.bL aE da
 have b0:=P.bL aE db
 by_cases c:vl WW a=0
 ·obtain ⟨rfl,e⟩:=h0 c
  refine ⟨0,rfl,?_,?_⟩
  ·exact ⟨da,na,c⟩
  exact ⟨db,nb,e⟩
 have g:=h1 c
 refine ⟨Rat.divInt (sg s (vl WW a)) (vl WW b),qC Ky Ky ?_ ?_⟩
 ·rw [g,Int.ediv_one];exact ⟨da,na,rfl⟩
 rw [g,Int.ediv_one];exact ⟨db,nb,rfl⟩
theorem vd_iff (ha:Arg v):Vd v↔v.2.1.length<=4096/\v.2.2.1.length<=4096/\Nm v.2.1/\Nm v.2.2.1/\vl WW v.2.2.1≠0/\(vl WW v.2.1=0->v.1=false/\vl WW v.2.2.1=1)/\(vl WW v.2.1≠0->gI (vl WW v.2.1) (vl WW v.2.2.1)=1):=by
 obtain ⟨s,a,b,_⟩:=v
 have h:=DT (s:=s) ha.1 ha.2.1
 constructor
 ·rintro ⟨q,h1,h2⟩
  obtain ⟨l1,l2⟩:=fY bE h1 h2
  exact ⟨l1,l2,h.1 ⟨q,h1⟩⟩
 rintro ⟨l1,l2,h3⟩
 obtain ⟨q,hq⟩:=h.2 h3
 exact ⟨q,hq,qx aE hq l1 l2⟩
theorem Jb {l:List Int} (hd:Dg WW l) (hn:Nm l):l.length=0↔vl WW l=0:=(show P.Can WW l (vl WW l) from ⟨hd,hn,rfl⟩).iV aE
theorem ui {l:List Int} (hd:Dg WW l) (hn:Nm l):((List.length l:Int)==(0:Int))=decide (vl WW l=0):=by
 by_cases c:vl WW l=0
 ·have:=(Jb hd hn).2 c
  rw [decide_eq_true c];simp [List.eq_nil_of_length_eq_zero this]
 rw [decide_eq_false c];exact mA aE ⟨hd,hn,rfl⟩ c
end
section
variable {v w:aI} {p q:Rat} {K L:Nat}
theorem Iy (x y:Int):(dA x y==(0:Int))=decide (x=y):=by
 unfold P.dA
 by_cases a:x<y
 ·rw [if_pos a,decide_eq_false Ky];rfl
 by_cases b:x=y
 ·rw [if_neg a,if_pos b,decide_eq_true b];rfl
 rw [if_neg a,if_neg b,decide_eq_false b];rfl
theorem yn (v:aI) (N:Nat):Ev (fun k=>cD k v (N:Int)) (decide (v.2.1.length<=N/\v.2.2.1.length<=N)):=by
 refine Ev.step (fun k=>lQ k v _) (Ev.bind ?_ (aZ _))
 by_cases c:v.2.1.length<=N
 ·refine bT (decide_eq_true Ky) ?_
  have:decide ((List.length v.2.2.1:Int)<=N)=decide (v.2.1.length<=N/\v.2.2.1.length<=N):=decide_eq_decide.2 Ky
  rw [this]
  exact aZ _
 have:decide (v.2.1.length<=N/\v.2.2.1.length<=N)=false:=decide_eq_false (fun h=>c h.1)
 rw [this]
 exact bF (decide_eq_false Ky) (aZ _)
abbrev nothing:aI:=(false,[],[],())
theorem z8:Ev (fun k=>gV k nothing) true:=Ev.step (fun k=>mE k _) (Ev.bind (bT rfl (aZ _)) (Ev.bind (bT rfl (aZ _)) (aZ _)))
theorem GU:(Gh q==(0:Int))=decide (q=0):=by
 rcases GV q with ⟨h1,h2⟩ | ⟨h1,h2⟩ | ⟨h1,h2⟩
 ·rw [h1,decide_eq_false (Rat.ne_of_lt h2)];rfl
 ·rw [h1,decide_eq_true h2];rfl
 rw [h1,decide_eq_false (Rat.ne_of_gt h2)];rfl
end
open Go.Proofs.YtfbgaddecbiimaaGreatDoor.P (Ir)
theorem xU:cy T=true:=by kernel_rfl
theorem mixed:T.P.follows .mixedOrders=true:=by kernel_rfl
theorem noGo0:(Tryz.prog.funcs.toList.all fun f=>f.name != "runtime.NumGoroutine")=true:=by kernel_rfl
theorem noGo (f:Nat) (fn:Func) (h:T.P.funcs[f]?=some fn):fn.name≠"runtime.NumGoroutine":=by
 have h1:=List.all_eq_true.1 noGo0 fn (by
  rw [Array.mem_toList_iff]
  exact Array.mem_of_getElem? h)
 simpa using h1
theorem EY {y:aI} (h:wE aj y):Arg y:=by
 obtain ⟨_,h1,h2,_⟩:=h
 exact ⟨Ir h1.2,Ir h2.2,trivial,trivial⟩
section
variable {v w:aI} {p q:Rat} {K L:Nat}
def down (n:Nat) (p:Rat):Rat:=((p*((2 ^ n:Int):Rat)).floor:Rat) / ((2 ^ n:Int):Rat)
end
section
variable {v w o r4:aI} {p q:Rat} {K L A C:Nat}
theorem Hl (p q:Rat) (n:Nat):(if n % 2=1 then q*p else q)*(p*p) ^ (n / 2)=q*p ^ n:=by
 have h:∀ m:Nat,(p*p) ^ m=p ^ (2*m):=fun m=>by
  induction m with
  | zero=>simp
  | succ m ih=>rw [Rat.pow_succ,ih,show 2*(m+1)=2*m+1+1 by omega,Rat.pow_succ,Rat.pow_succ];grind
 rw [h]
 by_cases c:n % 2=1
 ·rw [if_pos c]
  obtain ⟨e⟩:Nonempty (n=2*(n / 2)+1):=⟨Ky⟩
  rw [show p ^ n=p ^ (2*(n / 2)+1) from congrArg _ e,Rat.pow_succ]
  grind
 rw [if_neg c,show 2*(n / 2)=n by omega]
theorem FE (n:Nat):∀ {v o:aI} {p q:Rat} {A C:Nat},n<4294967296->RB WW v p->Sz WW C p->RB WW o q->Sz WW A q->A+4*(C*n)<1073741824->∃ r,aV (fun k m=>dC.l0 k m (n:Int) v r4 o) r/\RB WW r (q*p ^ n)/\Sz WW (A+C*n) (q*p ^ n):=by
 induction n using Nat.strongRecOn with
 | _ n ih =>
  intro v o p q A C hn hv hp ho hq hb
  by_cases h0:n=0
  ·subst h0
   refine ⟨o,aV.step (fun k m=>dC.ba k m _ _ _ _) (aV.bF (decide_eq_false (by decide)) (aV.of (aZ _))),?_,?_⟩
   ·simpa using ho
   simpa using hq
  have es:shr .i64 (n:Int) (1:Int)=((n / 2:Nat):Int):=by
   rw [show (1:Int)=((1:Nat):Int) from rfl,P.Jo Ky]
   omega
  have ea:Go.bits .and .i64 (n:Int) 1=(n:Int) % 2:=P.and1 Ky Ky
  have b1:2*C*(n / 2)<=C*n:=by
   rw [Nat.mul_comm 2 C,Nat.mul_assoc]
   exact Nat.mul_le_mul_left _ Ky
  have b2:C*n+C*n=2*C*n:=by rw [Nat.mul_assoc];omega
  have hC:C<=C*n:=Nat.le_mul_of_pos_right _ Ky
  have rest:∀ (o':aI) (q':Rat) (A':Nat),RB WW o' q'->Sz WW A' q'->A'+2*C*(n / 2)<=A+C*n->∃ r,aV (fun k m=>dC.j0 k m (n:Int) v r4 o') r/\RB WW r (q'*(p*p) ^ (n / 2))/\Sz WW (A'+2*C*(n / 2)) (q'*(p*p) ^ (n / 2)):=fun o' q' A' ho' hq' hA'=>by
   unfold dC.j0 dC.j1
   rw [es]
   by_cases h1:n=1
   ·subst h1
    obtain ⟨r,r1,r2,r3⟩:=ih 0 Ky (v:=v) Ky hv hp ho' hq' Ky
    refine ⟨r,aV.bF (decide_eq_false (by decide)) r1,?_,?_⟩
    ·simpa using r2
    simpa using r3
   obtain ⟨s,s1,s2,s3⟩:=kn hv hv hp hp Ky
   obtain ⟨r,r1,r2,r3⟩:=ih (n / 2) Ky Ky s2 s3 ho' hq' (by
    have e:(C+C)*(n / 2)=2*C*(n / 2):=by rw [show C+C=2*C by omega]
    omega)
   rw [show C+C=2*C by omega] at r3
   exact ⟨r,aV.bT (decide_eq_true Ky) (aV.bind s1 r1),r2,r3⟩
  have hfin:=Hl p q n
  by_cases h2:n % 2=1
  ·rw [if_pos h2] at hfin
   obtain ⟨s,s1,s2,s3⟩:=kn ho hv hq hp Ky
   have b3:C+2*C*(n / 2)=C*n:=by
    have:n=2*(n / 2)+1:=Ky
    calc C+2*C*(n / 2)=C*(2*(n / 2)+1):=by rw [Nat.mul_add,Nat.mul_one,<- Nat.mul_assoc,Nat.mul_comm C 2];omega
     _=C*n:=by rw [<- this]
   obtain ⟨r,r1,r2,r3⟩:=rest s _ _ s2 s3 Ky
   rw [hfin] at r2 r3
   rw [show A+C+2*C*(n / 2)=A+C*n by omega] at r3
   refine ⟨r,aV.step (fun k m=>dC.ba k m _ _ _ _) (aV.bT (decide_eq_true Ky) (aV.bT ?_ (aV.bind s1 r1))),r2,r3⟩
   rw [ea]
   exact beq_iff_eq.2 Ky
  rw [if_neg h2] at hfin
  obtain ⟨r,r1,r2,r3⟩:=rest o _ _ ho hq Ky
  rw [hfin] at r2 r3
  refine ⟨r,aV.step (fun k m=>dC.ba k m _ _ _ _) (aV.bT (decide_eq_true Ky) (aV.bF ?_ r1)),r2,eN aE r3 Ky⟩
  rw [ea]
  exact beq_false_of_ne Ky
theorem C2 (hv:RB WW v p) (hp:Sz WW K p) (n:Nat) (h:4*(K*n)<1073741000) (hn:n<4294967296):∃ r,Ev (fun k=>dC k v (n:Int)) r/\RB WW r (p ^ n)/\Sz WW (K*n+1) (p ^ n):=by
 obtain ⟨r,r1,r2,r3⟩:=FE (r4:=(false,[],[],())) n hn hv hp (CC bE) (sz_one bE (Nat.le_refl 1)) Ky
 rw [Rat.one_mul] at r2 r3
 exact ⟨r,Ev.step (fun k=>C3 k v _) (Ev.bind C4 r1.diag),r2,eN aE r3 Ky⟩
theorem CA (hv:RB RR v p) (hp:Sz RR 8 p) (n:Nat) (hn:n<=40):∃ r,Ev (fun k=>fO k v (n:Int)) r/\RB RR r (p ^ n)/\Sz RR 700 (p ^ n):=by
 obtain ⟨l1,l2⟩:=fY cM hv hp
 obtain ⟨x,x1,x2,x3⟩:=s_Pow Ky hv.2.1 n Ky
 obtain ⟨y,y1,y2,y3⟩:=s_Pow Ky hv.2.2 n Ky
 have hs:Ev (fun k=>bif v.1 then some ((Int.tmod (n:Int) (2:Int))==(1:Int)) else some false) (decide ((p ^ n).num<0)):=by
  have e:(p ^ n).num=p.num ^ n:=rfl
  rw [e,hv.1]
  by_cases c:p.num<0
  ·refine bT (decide_eq_true c) ?_
   have:((Int.tmod (n:Int) (2:Int))==(1:Int))=decide (p.num ^ n<0):=by
    have ht:Int.tmod (n:Int) 2=(n:Int) % 2:=Int.tmod_eq_emod_of_nonneg Ky
    rw [ht]
    have hpp:0<(p.num*p.num) ^ (n / 2):=Int.pow_pos (Int.mul_pos_of_neg_of_neg c c)
    have hsq:p.num ^ (2*(n / 2))=(p.num*p.num) ^ (n / 2):=by rw [Int.pow_mul];congr 1;rw [Int.pow_succ,Int.pow_succ,Int.pow_zero,Int.one_mul]
    rw [<- hsq] at hpp
    rw [Bool.eq_iff_iff,beq_iff_eq,decide_eq_true_eq]
    by_cases d:n % 2=1
    ·have h1:p.num ^ n=p.num ^ (2*(n / 2))*p.num:=by rw [<- Int.pow_succ];congr 1;omega
     have h2:p.num ^ (2*(n / 2))*p.num<0:=Int.mul_neg_of_pos_of_neg hpp c
     constructor
     ·intro _;rw [h1];exact h2
     intro _;omega
    have h1:p.num ^ n=p.num ^ (2*(n / 2)):=by congr 1;omega
    rw [h1]
    constructor
    ·intro _;omega
    intro _;omega
   rw [this]
   exact aZ _
  refine bF (decide_eq_false c) ?_
  have h2:0<=p.num ^ n:=Int.pow_nonneg Ky
  rw [decide_eq_false Ky]
  exact aZ _
 have en:((p.num.natAbs:Int)) ^ n=(((p ^ n).num.natAbs:Nat):Int):=by
  show _=(((p.num ^ n).natAbs:Nat):Int)
  rw [Int.natAbs_pow]
  simp
 have ed:(p.den:Int) ^ n=(((p ^ n).den:Nat):Int):=by
  show _=((p.den ^ n:Nat):Int)
  simp
 rw [en] at x2
 rw [ed] at y2
 have h:RB RR (decide ((p ^ n).num<0),x,y,()) (p ^ n):=⟨rfl,x2,y2⟩
 exact ⟨_,Ev.step (fun k=>ng k v _) (Ev.bind hs (Ev.bind x1 (Ev.bind y1 (aZ _)))),h,qx aX h (by show x.length<=700;omega) (by show y.length<=700;omega)⟩
end
def fB {α:Type} (g:Nat->Nat->Nat->Option α) (r:α):Prop:=∃ K,∀ k m n,K<=k->K<=m->K<=n->g k m n=some r
section
variable {α β:Type} {g f:Nat->Nat->Nat->Option α} {r:α}
theorem fB.diag (h:fB g r):aV (fun k n=>g k k n) r:=by
 obtain ⟨K,h⟩:=h
 exact ⟨K,fun k n hk hn=>h k k n hk hk hn⟩
theorem fB.step (h:∀ k m n,g k (m+1) n=f k m n) (k:fB f r):fB g r:=by
 obtain ⟨K,k⟩:=k
 refine ⟨K+1,fun n m q hn hm hq=>?_⟩
 obtain ⟨p,rfl⟩:∃ p,m=p+1:=⟨m-1,Ky⟩
 rw [h]
 exact k n p q Ky Ky Ky
theorem fB.bind {g:Nat->Option β} {f:Nat->Nat->Nat->β->Option α} {a:β} (h:Ev g a) (k:fB (fun n m q=>f n m q a) r):fB (fun n m q=>(g n).bind (f n m q)) r:=by
 obtain ⟨K,h⟩:=h
 obtain ⟨K',k⟩:=k
 refine ⟨max K K',fun n m q hn hm hq=>?_⟩
 have h1:=h n Ky
 simp only [h1,Option.bind_some]
 exact k n m q Ky Ky Ky
theorem fB.bT {c:Bool} (hc:c=true) (h:fB f r):fB (fun k m n=>bif c then f k m n else g k m n) r:=by subst hc;exact h
theorem fB.bF {c:Bool} (hc:c=false) (h:fB g r):fB (fun k m n=>bif c then f k m n else g k m n) r:=by subst hc;exact h
theorem fB.iT {c:Prop} [Decidable c] (hc:c) (h:fB f r):fB (fun k m n=>if c then f k m n else none) r:=by simpa only [if_pos hc] using h
theorem fB.of {g:Nat->Nat->Option α} (h:aV g r):fB (fun k _ n=>g k n) r:=by
 obtain ⟨K,h⟩:=h
 exact ⟨K,fun k m n hk _ hn=>h k n hk hn⟩
end
def VN (N:Nat) (v:aI):Prop:=∃ q,RB WW v q/\Sz WW N q
section
variable {v w:aI} {p q:Rat} {K L:Nat}
theorem Jx (l:List Int):∃ b,P.bP.f l=some b/\(b=true↔l.length<=4096/\Nm l):=by
 unfold P.bP.f
 by_cases h1:l.length<=4096
 ·by_cases h0:l.length=0
  ·refine ⟨true,by rw [if_pos Ky,if_pos Ky],?_⟩
   have:l=[]:=List.eq_nil_of_length_eq_zero h0
   subst this
   simp
   exact P.Nm.nil
  have e:wrap64 ((l.length:Int)-1)=(l.length:Int)-1:=cn Ky Ky
  rw [e,if_pos Ky,if_neg Ky,if_pos Ky,if_pos Ky]
  refine ⟨_,rfl,?_⟩
  simp only [bne_iff_ne]
  constructor
  ·intro h
   exact ⟨h1,P.od (fun _=>h)⟩
  intro h
  exact h.2.rd Ky
 refine ⟨false,by rw [if_neg Ky],?_⟩
 simp
 omega
theorem D2 (l:List Int) (hl:True):∃ t,Ev (fun k=>bP k l) t/\(t=true↔l.length<=4096/\Nm l):=by
 obtain ⟨t,h1,h3⟩:=Jx l
 exact ⟨t,Ev.step (fun k=>lS k l) (jQ h1),h3⟩
theorem qB (ha:Arg v):∃ t,Ev (fun k=>eI k v) t/\(t=true↔Vd v):=by
 have hiff:=vd_iff ha
 obtain ⟨da,db,la,lb⟩:=ha
 obtain ⟨s,a,b,_⟩:=v
 obtain ⟨t1,e1,i1⟩:=D2 a la
 obtain ⟨t2,e2,i2⟩:=D2 b lb
 by_cases c1:a.length<=4096/\Nm a
 ·by_cases c2:b.length<=4096/\Nm b
  ·obtain rfl:=i1.2 c1
   obtain rfl:=i2.2 c2
   have hb0:=ui db c2.2
   have ca:P.Can WW a (vl WW a):=⟨da,c1.2,rfl⟩
   have cb:P.Can WW b (vl WW b):=⟨db,c2.2,rfl⟩
   have h1:=yL cb
   by_cases c3:vl WW b=0
   ·refine ⟨false,Ev.step (fun k=>eS k _) (Ev.bind e1 (Ev.bind (a:=false) (bF rfl (Ev.bind e2 (aZ _))) (Ev.bind (a:=true) (bF rfl ?_) (bT rfl (aZ _))))),?_⟩
    ·rw [hb0,decide_eq_true c3];exact aZ _
    rw [hiff];simp [c3]
   refine (?_:∃ t,Ev (fun k=>bif (List.length a:Int)==(0:Int) then _ else _) t/\_).elim fun t h=>⟨t,Ev.step (fun k=>eS k _) (Ev.bind e1 (Ev.bind (a:=false) (bF rfl (Ev.bind e2 (aZ _))) (Ev.bind (a:=false) (bF rfl ?_) (bF rfl h.1)))),h.2⟩
   ·by_cases c4:vl WW a=0
    ·have ha0:((List.length a:Int)==(0:Int))=true:=by rw [ui da c1.2];exact decide_eq_true c4
     cases s with
     | true =>
      refine ⟨false,bT ha0 (Ev.bind (a:=false) (bF rfl (aZ _)) (Ev.bind (bF rfl (aZ _)) (aZ _))),?_⟩
      rw [hiff];simp [c4]
     | false =>
      refine ⟨decide (vl WW b=1),bT ha0 ?_,?_⟩
      ·by_cases c5:((List.length b:Int)==(1:Int))=true
       ·rw [c5] at h1
        refine Ev.bind (a:=true) (bT rfl (by rw [show (List.length (false,a,b,()).2.2.1:Int)=(List.length b:Int) from rfl,c5];exact aZ _)) (Ev.bind (bT rfl ?_) (aZ _))
        have h1':(if 0<=(0:Int)/\(0:Int)<(List.length b:Int) then some ((dM (t:=(.int .u32)) b (0:Int):Int)==(1:Int)) else none)=some (decide (vl WW b=1)):=h1
        exact jQ h1'
       have c6:=Bool.eq_false_iff.2 c5
       rw [c6] at h1
       have h1':some false=some (decide (vl WW b=1)):=h1
       rw [<- Option.some.inj h1']
       exact Ev.bind (a:=false) (bT rfl (by rw [show (List.length (false,a,b,()).2.2.1:Int)=(List.length b:Int) from rfl,c6];exact aZ _)) (Ev.bind (bF rfl (aZ _)) (aZ _))
      rw [hiff,decide_eq_true_eq]
      simp [c4,c1,c2,c3]
    have ha0:((List.length a:Int)==(0:Int))=false:=mA aE ca c4
    obtain ⟨x,x1,x2,x3⟩:=Ju Ky ca
    obtain ⟨y,y1,y2,y3⟩:=Ju Ky cb
    obtain ⟨g,g1,g2⟩:=s_GCD Ky Ky x2 y2
    have b0:0<vl WW b:=by
     have h0:(0:Int)<=vl WW b:=P.bL aE db
     omega
    have gl:g.length<4611686018427387904:=by
     have:=g2.fZ cM (Int.lt_of_le_of_lt (P.gI_le b0) (y2.lt aX))
     omega
    have h2:=s_Cmp gl g2 (BI cM)
    refine ⟨decide (gI (vl WW a) (vl WW b)=1),bF ha0 (Ev.bind x1 (Ev.bind y1 (Ev.bind g1 (Ev.bind h2 ?_)))),?_⟩
    ·rw [Iy];exact aZ _
    rw [hiff,decide_eq_true_eq]
    simp [c4,c1,c2,c3]
   rw [hb0,decide_eq_false c3];exact aZ _
  obtain rfl:=i1.2 c1
  have:t2=false:=Bool.eq_false_iff.2 (fun e=>c2 (i2.1 e))
  subst this
  refine ⟨false,Ev.step (fun k=>eS k _) (Ev.bind e1 (Ev.bind (a:=true) (bF rfl (Ev.bind e2 (aZ _))) (Ev.bind (a:=true) (bT rfl (aZ _)) (bT rfl (aZ _))))),?_⟩
  rw [hiff]
  simp
  intro h1 h2 h3 h4
  exact absurd ⟨h2,h4⟩ c2
 have:t1=false:=Bool.eq_false_iff.2 (fun e=>c1 (i1.1 e))
 subst this
 refine ⟨false,Ev.step (fun k=>eS k _) (Ev.bind e1 (Ev.bind (a:=true) (bT rfl (aZ _)) (Ev.bind (a:=true) (bT rfl (aZ _)) (bT rfl (aZ _))))),?_⟩
 rw [hiff]
 simp
 intro h1 h2 h3 h4
 exact absurd ⟨h1,h3⟩ c1
theorem vn_iff (N:Nat) (ha:Arg v):VN N v↔v.2.1.length<=N/\v.2.2.1.length<=N/\Nm v.2.1/\Nm v.2.2.1/\vl WW v.2.2.1≠0/\(vl WW v.2.1=0->v.1=false/\vl WW v.2.2.1=1)/\(vl WW v.2.1≠0->gI (vl WW v.2.1) (vl WW v.2.2.1)=1):=by
 obtain ⟨s,a,b,_⟩:=v
 have h:=DT (s:=s) ha.1 ha.2.1
 constructor
 ·rintro ⟨q,h1,h2⟩
  obtain ⟨l1,l2⟩:=fY bE h1 h2
  exact ⟨l1,l2,h.1 ⟨q,h1⟩⟩
 rintro ⟨l1,l2,h3⟩
 obtain ⟨q,hq⟩:=h.2 h3
 exact ⟨q,hq,qx aE hq l1 l2⟩
theorem tB (N:Nat) (hN:N<=4096) (l:List Int):∃ t,Ev (fun k=>jj k l (N:Int)) t/\(t=true↔l.length<=N/\Nm l):=by
 by_cases h1:l.length<=N
 ·by_cases h0:l.length=0
  ·have:l=[]:=List.eq_nil_of_length_eq_zero h0
   subst this
   exact ⟨true,Ev.step (fun k=>my k _ _) (Ev.bind (bT rfl (Ev.bind (bT rfl (aZ _)) (aZ _))) (aZ _)),by simp;exact P.Nm.nil⟩
  have e:wrap64 ((l.length:Int)-1)=(l.length:Int)-1:=cn Ky Ky
  refine ⟨rd l ((l.length:Int)-1) != 0,Ev.step (fun k=>my k _ _) (Ev.bind (bT (decide_eq_true Ky) (Ev.bind (bF (by simp;intro e;exact h0 (by simp [e])) ?_) (aZ _))) (aZ _)),?_⟩
  ·rw [e]
   exact iT Ky (aZ _)
  simp only [bne_iff_ne]
  exact ⟨fun h=>⟨h1,P.od (fun _=>h)⟩,fun h=>h.2.rd Ky⟩
 exact ⟨false,Ev.step (fun k=>my k _ _) (Ev.bind (bF (decide_eq_false Ky) (aZ _)) (aZ _)),by simp;omega⟩
theorem AH (N:Nat) (hN:N<=4096) (ha:Arg v):∃ t,Ev (fun k=>eB k v (N:Int)) t/\(t=true↔VN N v):=by
 have hiff:=vn_iff N ha
 obtain ⟨da,db,la,lb⟩:=ha
 obtain ⟨s,a,b,_⟩:=v
 obtain ⟨t1,e1,i1⟩:=tB N hN a
 obtain ⟨t2,e2,i2⟩:=tB N hN b
 show ∃ t,Ev (fun k=>eB k (s,a,b,()) (N:Int)) t/\(t=true↔VN N (s,a,b,()))
 by_cases c1:a.length<=N/\Nm a
 ·by_cases c2:b.length<=N/\Nm b
  ·obtain rfl:=i1.2 c1
   obtain rfl:=i2.2 c2
   have hb0:=ui db c2.2
   have ca:P.Can WW a (vl WW a):=⟨da,c1.2,rfl⟩
   have cb:P.Can WW b (vl WW b):=⟨db,c2.2,rfl⟩
   have h1:=yL cb
   by_cases c3:vl WW b=0
   ·refine ⟨false,Ev.step (fun k=>j6 k _ _) (Ev.bind e1 (Ev.bind (a:=false) (bF rfl (Ev.bind e2 (aZ _))) (Ev.bind (a:=true) (bF rfl ?_) (bT rfl (aZ _))))),?_⟩
    ·rw [hb0,decide_eq_true c3];exact aZ _
    rw [hiff];simp [c3]
   refine (?_:∃ t,Ev (fun k=>bif (List.length a:Int)==(0:Int) then _ else _) t/\_).elim fun t h=>⟨t,Ev.step (fun k=>j6 k _ _) (Ev.bind e1 (Ev.bind (a:=false) (bF rfl (Ev.bind e2 (aZ _))) (Ev.bind (a:=false) (bF rfl ?_) (bF rfl h.1)))),h.2⟩
   ·by_cases c4:vl WW a=0
    ·have ha0:((List.length a:Int)==(0:Int))=true:=by rw [ui da c1.2];exact decide_eq_true c4
     cases s with
     | true =>
      refine ⟨false,bT ha0 (Ev.bind (a:=false) (bF rfl (aZ _)) (Ev.bind (bF rfl (aZ _)) (aZ _))),?_⟩
      rw [hiff];simp [c4]
     | false =>
      refine ⟨decide (vl WW b=1),bT ha0 ?_,?_⟩
      ·by_cases c5:((List.length b:Int)==(1:Int))=true
       ·rw [c5] at h1
        refine Ev.bind (a:=true) (bT rfl (by rw [show (List.length (false,a,b,()).2.2.1:Int)=(List.length b:Int) from rfl,c5];exact aZ _)) (Ev.bind (bT rfl ?_) (aZ _))
        have h1':(if 0<=(0:Int)/\(0:Int)<(List.length b:Int) then some ((dM (t:=(.int .u32)) b (0:Int):Int)==(1:Int)) else none)=some (decide (vl WW b=1)):=h1
        exact jQ h1'
       have c6:=Bool.eq_false_iff.2 c5
       rw [c6] at h1
       have h1':some false=some (decide (vl WW b=1)):=h1
       rw [<- Option.some.inj h1']
       exact Ev.bind (a:=false) (bT rfl (by rw [show (List.length (false,a,b,()).2.2.1:Int)=(List.length b:Int) from rfl,c6];exact aZ _)) (Ev.bind (bF rfl (aZ _)) (aZ _))
      rw [hiff,decide_eq_true_eq]
      simp [c4,c1,c2,c3]
    have ha0:((List.length a:Int)==(0:Int))=false:=mA aE ca c4
    by_cases c5:vl WW b=1
    ·refine ⟨true,bF ha0 (Ev.bind (jQ h1) (bT (decide_eq_true c5) (aZ _))),?_⟩
     rw [hiff]
     have:gI (vl WW a) 1=1:=by unfold P.gI;simp
     simp [c4,c1,c2,c5,this]
    obtain ⟨g,g1,g2⟩:=q_GCD Ky Ky ca cb
    have h2:=yL g2
    refine ⟨decide (gI (vl WW a) (vl WW b)=1),bF ha0 (Ev.bind (jQ h1) (bF (decide_eq_false c5) (Ev.bind g1 (Ev.bind (jQ h2) (aZ _))))),?_⟩
    rw [hiff,decide_eq_true_eq]
    simp [c4,c1,c2,c3]
   rw [hb0,decide_eq_false c3];exact aZ _
  obtain rfl:=i1.2 c1
  have:t2=false:=Bool.eq_false_iff.2 (fun e=>c2 (i2.1 e))
  subst this
  refine ⟨false,Ev.step (fun k=>j6 k _ _) (Ev.bind e1 (Ev.bind (a:=true) (bF rfl (Ev.bind e2 (aZ _))) (Ev.bind (a:=true) (bT rfl (aZ _)) (bT rfl (aZ _))))),?_⟩
  rw [hiff]
  simp
  intro h1 h2 h3 h4
  exact absurd ⟨h2,h4⟩ c2
 have:t1=false:=Bool.eq_false_iff.2 (fun e=>c1 (i1.1 e))
 subst this
 refine ⟨false,Ev.step (fun k=>j6 k _ _) (Ev.bind e1 (Ev.bind (a:=true) (bT rfl (aZ _)) (Ev.bind (a:=true) (bT rfl (aZ _)) (bT rfl (aZ _))))),?_⟩
 rw [hiff]
 simp
 intro h1 h2 h3 h4
 exact absurd ⟨h1,h3⟩ c1
end
noncomputable def dc (p:Prop):Bool:=@decide p (Classical.propDecidable p)
theorem fw {p:Prop} (h:p):dc p=true:=@decide_eq_true p (Classical.propDecidable p) h
theorem eK {p:Prop} (h:¬ p):dc p=false:=@decide_eq_false p (Classical.propDecidable p) h
theorem dc_iff {p:Prop}:dc p=true↔p:=@decide_eq_true_iff p (Classical.propDecidable p)
theorem BD {p:Prop} {t:Bool} (h:t=true↔p):t=dc p:=by
 cases t with
 | true=>exact (fw (h.1 rfl)).symm
 | false=>exact (eK (fun hp=>by have:=h.2 hp;cases this)).symm
theorem dF {t:Ty} {l:List t.den} {i:Nat} (h:i<l.length):dM l (i:Int)=l[i]:=by
 simp [dM,h]
theorem iX {i:Nat} (h:i<9223372036854775807):wrap64 ((i:Int)+1)=((i+1:Nat):Int):=by
 rw [cn Ky Ky];omega
section
variable {v w:aI} {p q:Rat} {K L:Nat}
theorem qT (N:Nat) (hN:N<=4096) (ha:Arg v):Ev (fun k=>eB k v (N:Int)) (dc (VN N v)):=by
 obtain ⟨t,h1,h2⟩:=AH N hN ha
 rw [<- BD h2]
 exact h1
theorem zo {N:Nat} (hN:N<=4096) (ha:Arg v):VN N v↔(v.2.1.length<=N/\v.2.2.1.length<=N)/\Vd v:=by
 constructor
 ·rintro ⟨q,h1,h2⟩
  exact ⟨fY bE h1 h2,q,h1,eN aE h2 hN⟩
 rintro ⟨⟨h1,h2⟩,q,h3,h4⟩
 exact ⟨q,h3,qx aE h3 h1 h2⟩
theorem yk (ha:Arg v):Ev (fun k=>eI k v) (dc (Vd v)):=by
 obtain ⟨t,h1,h2⟩:=qB ha
 rw [<- BD h2]
 exact h1
end
theorem sM {n:Nat} {P:Nat->Prop} (hn:P n) (hs:∀ i,i<n->P (i+1)->P i):∀ i,i<=n->P i:=by
 have key:∀ d i,n-i=d->i<=n->P i:=by
  intro d
  induction d with
  | zero =>
   intro i hd hi;have:i=n:=Ky
   subst this;exact hn
  | succ d ih=>intro i hd hi;exact hs i Ky (ih (i+1) Ky Ky)
 exact fun i hi=>key (n-i) i rfl hi
theorem fh {α:Type} {l:List α} {i:Nat} (h:i<l.length):l.drop i=l[i] :: l.drop (i+1):=List.drop_eq_getElem_cons h
theorem uU (x y:List Int) (h:x.length<=y.length) (hy:y.length<=9223372036854775807):Ev (fun k=>eO k x y) (cR x y):=by
 have main:=sM (n:=x.length) (P:=fun i=>aV (fun k m=>eO.l0 k m y x (x.length:Int) (i:Int)) (cR (x.drop i) (y.drop i))) ?_ ?_ 0 (Nat.zero_le _)
 ·exact Ev.step (fun k=>CU k x y) main.diag
 ·rw [List.drop_length]
  exact aV.step (fun k m=>eO.ba k m _ _ _ _) (aV.bF (decide_eq_false Ky) (aV.of (aZ _)))
 intro i hi ih
 have hiy:i<y.length:=Ky
 have e1:(dM (t:=(.int .i64)) x (i:Int):Int)=x[i]:=dF hi
 have e2:(dM (t:=(.int .i64)) y (i:Int):Int)=y[i]:=dF hiy
 rw [fh hi,fh hiy]
 refine aV.step (fun k m=>eO.ba k m _ _ _ _) (aV.bT (decide_eq_true Ky) (aV.iT Ky (aV.iT Ky ?_)))
 rw [e1,e2]
 by_cases c:x[i]=y[i]
 ·have ce:cR (x[i] :: x.drop (i+1)) (y[i] :: y.drop (i+1))=cR (x.drop (i+1)) (y.drop (i+1)):=by simp only [cR,if_pos c]
  rw [ce]
  refine aV.bF (by simp [c]) ?_
  rw [iX Ky]
  exact ih
 refine aV.bT (by simp [c]) (aV.iT Ky ?_)
 by_cases d:x[i]<y[i]
 ·have ce:cR (x[i] :: x.drop (i+1)) (y[i] :: y.drop (i+1)) = -1:=by simp only [cR,if_neg c,if_pos d]
  rw [ce]
  exact aV.bT (decide_eq_true d) (aV.of (aZ _))
 have ce:cR (x[i] :: x.drop (i+1)) (y[i] :: y.drop (i+1))=1:=by simp only [cR,if_neg c,if_neg d]
 rw [ce]
 exact aV.bF (decide_eq_false d) (aV.of (aZ _))
def sE:List Int->Int
 | []=>0
 | x :: l=>x+sE l
theorem rO:∀ a b,sE (a++b)=sE a+sE b
 | [],b=>by simp [sE]
 | x :: a,b=>by rw [List.cons_append,sE,sE,rO a b];omega
theorem mf {l:List Int} {i:Nat} (h:i<l.length):sE (l.take (i+1))=sE (l.take i)+l[i]:=by
 rw [List.take_succ_eq_append_getElem h,rO];simp [sE]
theorem qz {B:Int} (hB:0<=B):∀ {l:List Int},(∀ x∈l,0<=x/\x<=B)->0<=sE l/\sE l<=B*l.length
 | [],_=>by simp [sE]
 | x :: l,h=>by
  have h1:=qz hB (l:=l) (fun y hy=>h y (by simp [hy]))
  have h2:=h x Kz
  have e:B*((x :: l).length:Int)=B*l.length+B:=by simp only [List.length_cons];grind
  simp only [sE]
  omega
abbrev gT (x:List Int):List Int:=eY (0:Int) 8 x
theorem eG {α:Type} (z:α):∀ (n:Nat) (l:List α),(eY z n l).length=n
 | 0,l=>rfl
 | n+1,[]=>by simp [eY,eG z n]
 | n+1,a :: l=>by simp [eY,eG z n]
theorem dN {α:Type} (z:α):∀ (n:Nat) (l:List α),l.length<=n->eY z n l=l++List.replicate (n-l.length) z
 | 0,[],_=>rfl
 | 0,_ :: _,h=>by simp at h
 | n+1,[],_=>by
  have:=dN z n [] (Nat.zero_le _)
  simp only [eY,this,List.nil_append,List.length_nil,Nat.sub_zero]
  rfl
 | n+1,a :: l,h=>by
  have:=dN z n l (by simpa using h)
  simp only [eY,this,List.cons_append,List.length_cons,Nat.add_sub_add_right]
theorem D4:∀ n,sE (List.replicate n (0:Int))=0
 | 0=>rfl
 | n+1=>by rw [List.replicate_succ,sE,D4 n];rfl
theorem G1 {x:List Int} (h:x.length<=8):sE (gT x)=sE x:=by
 rw [gT,dN _ _ _ h,rO,D4];omega
theorem xG (n m:Nat):∀ x y:List Int,x.length=y.length->cR (x++List.replicate n 0) (y++List.replicate n 0)=cR x y
 | [],[],_=>by
  show cR (List.replicate n 0) (List.replicate n 0)=0
  exact sP _
 | [],_ :: _,h=>by simp at h
 | _ :: _,[],h=>by simp at h
 | a :: x,b :: y,h=>by
  simp only [List.cons_append,cR,xG n m x y (by simpa using h)]
theorem Iz {x y:List Int} (hx:x.length<=8) (h:x.length=y.length):cR (gT x) (gT y)=cR x y:=by
 rw [gT,gT,dN _ _ _ hx,dN _ _ _ Ky,<- h]
 exact xG _ 0 x y h
theorem tY {e:List Int} (he:e.length=8) {i:Nat} (hi:i<8):yo (0:Int) 8 e (i:Int)=e[i]:=by
 simp only [yo,Int.toNat_natCast,Nat.mod_eq_of_lt hi]
 rw [List.getD_eq_getElem?_getD,List.getElem?_eq_getElem Ky]
 rfl
theorem zT (u:Int):∀ (l:List Int) (i:Nat),i<l.length->zU (0:Int) u l i=l.set i u
 | [],i,h=>by simp at h
 | _ :: l,0,_=>rfl
 | a :: l,i+1,h=>by
  show a :: zU (0:Int) u l i=a :: l.set i u
  rw [zT u l i (by simpa using h)]
theorem Jm {e:List Int} (he:e.length=8) {i:Nat} (hi:i<8) (u:Int):stA (0:Int) 8 e (i:Int) u=e.set i u:=by
 simp only [stA,Int.toNat_natCast,Nat.mod_eq_of_lt hi]
 exact zT u e i Ky
theorem mi (e:List Int) (he:e.length=8) (hb:∀ x∈e,0<=x/\x<=1000000):Ev (fun k=>bV k e) (sE e):=by
 have hs:∀ i,0<=sE (e.take i)/\sE (e.take i)<=1000000*8:=fun i=>by
  have:=qz (B:=1000000) Ky (l:=e.take i) (fun x hx=>hb x (List.mem_of_mem_take hx))
  have h2:((e.take i).length:Int)<=8:=by rw [List.length_take];omega
  omega
 have main:=sM (n:=8) (P:=fun i=>aV (fun k m=>bV.l0 k m (sE (e.take i)) e (i:Int)) (sE e)) ?_ ?_ 0 Ky
 ·exact Ev.step (fun k=>lP k e) main.diag
 ·have:e.take 8=e:=List.take_of_length_le Ky
  rw [this]
  exact aV.step (fun k m=>bV.ba k m _ _ _) (aV.bF (decide_eq_false Ky) (aV.of (aZ _)))
 intro i hi ih
 refine aV.step (fun k m=>bV.ba k m _ _ _) (aV.bT (decide_eq_true Ky) (aV.iT Ky ?_))
 rw [tY he hi,<- mf Ky,iX Ky]
 have:=hs (i+1)
 rw [cn Ky Ky]
 exact ih
theorem wg (a b:List Int) (ha:a.length=8) (hb:b.length=8):Ev (fun k=>bR k a b) (decide (cR a b>0)):=by
 have main:=sM (n:=8) (P:=fun i=>aV (fun k m=>bR.l0 k m (i:Int) a b) (decide (cR (a.drop i) (b.drop i)>0))) ?_ ?_ 0 Ky
 ·exact Ev.step (fun k=>k9 k a b) main.diag
 ·rw [List.drop_of_length_le Ky]
  exact aV.step (fun k m=>bR.ba k m _ _ _) (aV.bF (decide_eq_false Ky) (aV.of (aZ _)))
 intro i hi ih
 have hia:i<a.length:=Ky
 have hib:i<b.length:=Ky
 rw [fh hia,fh hib]
 refine aV.step (fun k m=>bR.ba k m _ _ _) (aV.bT (decide_eq_true Ky) (aV.iT Ky (aV.iT Ky ?_)))
 rw [tY ha hi,tY hb hi]
 by_cases c:a[i]=b[i]
 ·have ce:cR (a[i] :: a.drop (i+1)) (b[i] :: b.drop (i+1))=cR (a.drop (i+1)) (b.drop (i+1)):=by simp only [cR,if_pos c]
  rw [ce]
  refine aV.bF (by simp [c]) ?_
  rw [iX Ky]
  exact ih
 refine aV.bT (by simp [c]) (aV.iT Ky (aV.iT Ky ?_))
 have ce:decide (cR (a[i] :: a.drop (i+1)) (b[i] :: b.drop (i+1))>0)=decide (a[i]>b[i]):=by
  simp only [cR,if_neg c]
  by_cases d:a[i]<b[i]
  ·rw [if_pos d,decide_eq_false Ky,decide_eq_false Ky]
  rw [if_neg d,decide_eq_true Ky,decide_eq_true Ky]
 rw [ce]
 exact aV.of (aZ _)
theorem pj {c:Prop} [Decidable c] (h:¬ c):Ev (fun _=>some (decide c)) false:=by rw [decide_eq_false h];exact aZ _
theorem yS {c:Prop} [Decidable c] (h:c):Ev (fun _=>some (decide c)) true:=by rw [decide_eq_true h];exact aZ _
def ArgM (t:aw):Prop:=t.1.length<=9223372036854775807/\Arg t.2.1
def lB (p:aR):Prop:=p.2.1.length<=9223372036854775807/\∀ t∈p.2.1,ArgM t
structure TermOk (N:Int) (t:aw):Prop where
 len:(t.1.length:Int)=N
 ex:∀ x∈t.1,0<=x/\x<=40
 sum:sE t.1<=40
 co:VN 200 t.2.1
 ne:t.2.1.2.1.length≠0
abbrev dz (p:aR) (i:Nat):aw:=dM (t:=ah) p.2.1 (i:Int)
def qk (p:aR) (i:Nat):Prop:=TermOk p.1 (dz p i)/\(0<i->cR (dz p (i-1)).1 (dz p i).1>0)
structure fk (p:aR):Prop where
 n0:0<=p.1
 n8:p.1<=8
 few:p.2.1.length<=4000
 good:∀ i,i<p.2.1.length->qk p i
theorem xT {p:aR} (ha:lB p) {i:Nat} (hi:i<p.2.1.length):ArgM (dz p i):=by
 have:dz p i=p.2.1[i]:=dF hi
 rw [this]
 exact ha.2 _ (List.getElem_mem _)
theorem AK (v:aI) (N:Nat):Ev (fun k=>iU k v (N:Int)) (decide (v.2.1.length<=N/\v.2.2.1.length<=N)):=by
 by_cases c:v.2.1.length<=N
 ·by_cases d:v.2.2.1.length<=N
  ·rw [decide_eq_true ⟨c,d⟩]
   exact Ev.step (fun k=>kM k v _) (Ev.bind (a:=true) (bT (decide_eq_true Ky) (by rw [show decide ((v.2.2.1.length:Int)<=(N:Int))=true from decide_eq_true Ky];exact aZ _)) (aZ _))
  rw [decide_eq_false (fun h=>d h.2)]
  exact Ev.step (fun k=>kM k v _) (Ev.bind (a:=false) (bT (decide_eq_true Ky) (by rw [show decide ((v.2.2.1.length:Int)<=(N:Int))=false from decide_eq_false Ky];exact aZ _)) (aZ _))
 rw [decide_eq_false (fun h=>c h.1)]
 exact Ev.step (fun k=>kM k v _) (Ev.bind (a:=false) (bF (decide_eq_false Ky) (aZ _)) (aZ _))
theorem yD (v:aI):∃ s,Ev (fun k=>iS k v) s/\((s==(0:Int))=decide (v.2.1.length=0)):=by
 by_cases c:v.2.1.length=0
 ·refine ⟨0,Ev.step (fun k=>kL k v) (bT (by simp [c]) (aZ _)),by rw [decide_eq_true c];rfl⟩
 have hc:((List.length v.2.1:Int)==(0:Int))=false:=by simp;intro h;exact c (by rw [h];rfl)
 cases hs:v.1 with
 | true=>exact ⟨-1,Ev.step (fun k=>kL k v) (bF hc (bT hs (aZ _))),by rw [decide_eq_false c];rfl⟩
 | false=>exact ⟨1,Ev.step (fun k=>kL k v) (bF hc (bF hs (aZ _))),by rw [decide_eq_false c];rfl⟩
theorem Gq {N:Nat} {v:aI} (h:VN N v):v.2.1.length<=N/\v.2.2.1.length<=N:=by
 obtain ⟨q,h1,h2⟩:=h
 exact fY bE h1 h2
section
variable {p:aR} {i:Nat}
theorem B7 (ha:lB p) (hi:i<p.2.1.length) (hl:(dz p i).1.length<=9223372036854775807) (hp:0<i->(dz p (i-1)).1.length<=(dz p i).1.length) {r:Bool} (hr:(sE (dz p i).1<=40/\(0<i->cR (dz p (i-1)).1 (dz p i).1>0)/\VN 200 (dz p i).2.1)->aV (fun k m=>bw.l0 k m p.2.1 (p.2.1.length:Int) ((i+1:Nat):Int) p) r) (hf:¬ (sE (dz p i).1<=40/\(0<i->cR (dz p (i-1)).1 (dz p i).1>0)/\VN 200 (dz p i).2.1)->r=false) :
 aV (fun k m0=>(bif decide (sE (dz p i).1>(40:Int)) then some true else (bif decide ((i:Int)>(0:Int)) then if 0<=(wrap64 ((i:Int)-(1:Int)))/\(wrap64 ((i:Int)-(1:Int)))<(List.length p.2.1:Int) then (eO k ((dM (t:=ah) p.2.1 (wrap64 ((i:Int)-(1:Int))):aw).1) (dz p i).1).bind fun (v8:Int) =>
  some (decide (v8<=(0:Int))) else none else some false).bind fun (b9:Bool) =>
  some b9).bind fun (b10:Bool) =>
  (bif b10 then some true else (eB k (dz p i).2.1 (200:Int)).bind fun (v11:Bool) =>
  some (!v11)).bind fun (b12:Bool) =>
  bif b12 then
   some false
  else
   bw.l0 k m0 p.2.1 (p.2.1.length:Int) (wrap64 ((i:Int)+(1:Int))) p) r:=by
 have hlen:=ha.1
 have hv:Ev (fun k=>eB k (dz p i).2.1 (200:Int)) (dc (VN 200 (dz p i).2.1)):=qT 200 Ky (xT ha hi).2
 by_cases c1:sE (dz p i).1>40
 ·rw [hf (fun h=>Ky)]
  exact aV.bind (a:=true) (bT (decide_eq_true c1) (aZ _)) (aV.bind (a:=true) (bT rfl (aZ _)) (aV.bT rfl (aV.of (aZ _))))
 have h2:Ev (fun k=>(bif decide ((i:Int)>(0:Int)) then if 0<=(wrap64 ((i:Int)-(1:Int)))/\(wrap64 ((i:Int)-(1:Int)))<(List.length p.2.1:Int) then (eO k ((dM (t:=ah) p.2.1 (wrap64 ((i:Int)-(1:Int))):aw).1) (dz p i).1).bind fun (v8:Int)=>some (decide (v8<=(0:Int))) else none else some false)) (dc (¬ (0<i->cR (dz p (i-1)).1 (dz p i).1>0))):=by
  by_cases c0:0<i
  ·have e1:wrap64 ((i:Int)-1)=((i-1:Nat):Int):=by rw [cn Ky Ky];omega
   rw [e1]
   refine bT (decide_eq_true Ky) (iT Ky (Ev.bind (uU _ _ (hp c0) hl) ?_))
   have:decide (cR (dz p (i-1)).1 (dz p i).1<=0)=dc (¬ (0<i->cR (dz p (i-1)).1 (dz p i).1>0)):=BD (by
    rw [decide_eq_true_eq]
    constructor
    ·intro h h'
     have:=h' c0
     omega
    intro h
    apply Classical.byContradiction
    intro h'
    exact h (fun _=>Ky))
   rw [<- this]
   exact aZ _
  rw [eK (fun h=>h (fun h'=>absurd h' c0))]
  exact bF (decide_eq_false Ky) (aZ _)
 by_cases c2:(0<i->cR (dz p (i-1)).1 (dz p i).1>0)
 ·rw [eK (fun h=>h c2)] at h2
  refine aV.bind (a:=false) (bF (decide_eq_false c1) (Ev.bind h2 (aZ _))) ?_
  by_cases c3:VN 200 (dz p i).2.1
  ·rw [fw c3] at hv
   refine aV.bind (a:=false) (bF rfl (Ev.bind hv (aZ _))) (aV.bF rfl ?_)
   rw [iX Ky]
   exact hr ⟨Ky,c2,c3⟩
  rw [eK c3] at hv
  rw [hf (fun h=>c3 h.2.2)]
  exact aV.bind (a:=true) (bF rfl (Ev.bind hv (aZ _))) (aV.bT rfl (aV.of (aZ _)))
 rw [fw c2] at h2
 rw [hf (fun h=>c2 h.2.1)]
 exact aV.bind (a:=true) (bF (decide_eq_false c1) (Ev.bind h2 (aZ _))) (aV.bind (a:=true) (bT rfl (aZ _)) (aV.bT rfl (aV.of (aZ _))))
theorem zq (ha:lB p) (h8:p.1<=8) (hi:i<p.2.1.length) (hp:0<i->((dz p (i-1)).1.length:Int)=p.1) {r:Bool} (hr:qk p i->aV (fun k m=>bw.l0 k m p.2.1 (p.2.1.length:Int) ((i+1:Nat):Int) p) r) (hf:¬ qk p i->r=false) :
 aV (fun k m=>bw.l0 k m p.2.1 (p.2.1.length:Int) (i:Int) p) r:=by
 have hlen:=ha.1
 have harg:=xT ha hi
 refine aV.step (fun k m=>bw.ba k m _ _ _ _) (aV.bT (decide_eq_true Ky) (aV.iT Ky ?_))
 by_cases c1:((dz p i).1.length:Int)=p.1
 ·have b1:((List.length (dz p i).1:Int) != p.1)=false:=by simp [c1]
  have hfit:Ev (fun k=>iU k (dz p i).2.1 (200:Int)) _:=AK (dz p i).2.1 200
  by_cases c2:(dz p i).2.1.2.1.length<=200/\(dz p i).2.1.2.2.1.length<=200
  ·rw [decide_eq_true c2] at hfit
   obtain ⟨s,hs1,hs2⟩:=yD (dz p i).2.1
   by_cases c3:(dz p i).2.1.2.1.length=0
   ·rw [decide_eq_true c3] at hs2
    rw [hf (fun h=>h.1.ne c3)]
    exact aV.bind (a:=false) (bF b1 (Ev.bind hfit (aZ _))) (aV.bind (a:=true) (bF rfl (Ev.bind hs1 (by rw [hs2];exact aZ _))) (aV.bT rfl (aV.of (aZ _))))
   rw [decide_eq_false c3] at hs2
   refine aV.bind (a:=false) (bF b1 (Ev.bind hfit (aZ _))) (aV.bind (a:=false) (bF rfl (Ev.bind hs1 (by rw [hs2];exact aZ _))) (aV.bF rfl ?_))
   have hx8:(dz p i).1.length<=8:=Ky
   have tl:=B7 (r:=r) ha hi harg.1 (fun h0=>by have:=hp h0;omega)
   have bnd:∀ j,(∀ j' (h:j'<(dz p i).1.length),j'<j->0<=(dz p i).1[j']/\(dz p i).1[j']<=40)->0<=sE ((dz p i).1.take j)/\sE ((dz p i).1.take j)<=320:=fun j hg=>by
    have h1:=qz (B:=40) Ky (l:=(dz p i).1.take j) (fun x hx=>by
     obtain ⟨j',h1,rfl⟩:=List.getElem_of_mem hx
     rw [List.length_take] at h1
     rw [List.getElem_take]
     exact hg j' Ky Ky)
    have h2:(((dz p i).1.take j).length:Int)<=8:=by rw [List.length_take];omega
    omega
   have key:=sM (n:=(dz p i).1.length) (P:=fun j=>(∀ j' (h:j'<(dz p i).1.length),j'<j->0<=(dz p i).1[j']/\(dz p i).1[j']<=40)->fB (fun k m1 m0=>bw.l1 k m1 m0 (i:Int) (sE ((dz p i).1.take j)) p.2.1 (p.2.1.length:Int) (i:Int) (dz p i).1 ((dz p i).1.length:Int) (j:Int) p (dz p i)) r) ?_ ?_ 0 (Nat.zero_le _) (fun j' _ h=>Ky)
   ·exact key.diag
   ·intro hg
    have hall:∀ x∈(dz p i).1,0<=x/\x<=40:=fun x hx=>by
     obtain ⟨j',h1,rfl⟩:=List.getElem_of_mem hx
     exact hg j' h1 h1
    rw [List.take_length]
    refine fB.step (fun k m1 m0=>bw.fv k m1 m0 _ _ _ _ _ _ _ _ _ _) (fB.bF (decide_eq_false Ky) (fB.of ?_))
    refine tl (fun h=>hr ⟨⟨c1,hall,h.1,h.2.2,c3⟩,h.2.1⟩) (fun h=>hf (fun g=>h ⟨g.1.sum,g.2,g.1.co⟩))
   intro j hj ih hg
   have e1:(dM (t:=(.int .i64)) (dz p i).1 (j:Int):Int)=(dz p i).1[j]:=dF hj
   refine fB.step (fun k m1 m0=>bw.fv k m1 m0 _ _ _ _ _ _ _ _ _ _) (fB.bT (decide_eq_true Ky) (fB.iT Ky ?_))
   rw [e1]
   by_cases g1:0<=(dz p i).1[j]/\(dz p i).1[j]<=40
   ·have b2:=bnd (j+1) (fun j' h1 h2=>by
     by_cases c:j'=j
     ·subst c;exact g1
     exact hg j' h1 Ky)
    have b3:=mf hj
    refine fB.bind (a:=false) (bF (decide_eq_false (show ¬ (dz p i).1[j]<0 by omega)) (pj (show ¬ (dz p i).1[j]>40 by omega))) (fB.bF rfl ?_)
    rw [<- b3,cn Ky Ky,iX Ky]
    exact ih (fun j' h1 h2=>by
     by_cases c:j'=j
     ·subst c;exact g1
     exact hg j' h1 Ky)
   rw [hf (fun h=>g1 (h.1.ex _ (List.getElem_mem hj)))]
   refine fB.bind (a:=true) ?_ (fB.bT rfl (fB.of (aV.of (aZ _))))
   by_cases g2:(dz p i).1[j]<0
   ·exact bT (decide_eq_true g2) (aZ _)
   exact bF (decide_eq_false g2) (yS (show (dz p i).1[j]>40 by omega))
  rw [decide_eq_false c2] at hfit
  rw [hf (fun h=>c2 (Gq h.1.co))]
  exact aV.bind (a:=true) (bF b1 (Ev.bind hfit (aZ _))) (aV.bind (a:=true) (bT rfl (aZ _)) (aV.bT rfl (aV.of (aZ _))))
 have b1:((List.length (dz p i).1:Int) != p.1)=true:=by simp [c1]
 rw [hf (fun h=>c1 h.1.len)]
 exact aV.bind (a:=true) (bT b1 (aZ _)) (aV.bind (a:=true) (bT rfl (aZ _)) (aV.bT rfl (aV.of (aZ _))))
theorem hJ (ha:lB p):Ev (fun k=>bw k p) (dc (fk p)):=by
 have hlen:=ha.1
 by_cases c0:p.1<0
 ·rw [eK (fun h=>by have:=h.n0;omega)]
  exact Ev.step (fun k=>jw k p) (Ev.bind (a:=true) (bT (decide_eq_true c0) (aZ _)) (Ev.bind (a:=true) (bT rfl (aZ _)) (bT rfl (aZ _))))
 by_cases c8:p.1>8
 ·rw [eK (fun h=>by have:=h.n8;omega)]
  exact Ev.step (fun k=>jw k p) (Ev.bind (a:=true) (bF (decide_eq_false c0) (yS c8)) (Ev.bind (a:=true) (bT rfl (aZ _)) (bT rfl (aZ _))))
 by_cases c4:p.2.1.length>4000
 ·rw [eK (fun h=>by have:=h.few;omega)]
  exact Ev.step (fun k=>jw k p) (Ev.bind (a:=false) (bF (decide_eq_false c0) (pj c8)) (Ev.bind (a:=true) (bF rfl (yS Ky)) (bT rfl (aZ _))))
 refine Ev.step (fun k=>jw k p) (Ev.bind (a:=false) (bF (decide_eq_false c0) (pj c8)) (Ev.bind (a:=false) (bF rfl (pj Ky)) (bF rfl (aV.diag (g:=fun k m=>bw.l0 k m p.2.1 (p.2.1.length:Int) (0:Int) p) ?_))))
 have main:=sM (n:=p.2.1.length) (P:=fun i=>(∀ j,j<i->qk p j)->aV (fun k m=>bw.l0 k m p.2.1 (p.2.1.length:Int) (i:Int) p) (dc (fk p))) ?_ ?_ 0 (Nat.zero_le _) (fun j h=>Ky)
 ·exact main
 ·intro hg
  rw [fw ⟨Ky,Ky,Ky,hg⟩]
  exact aV.step (fun k m=>bw.ba k m _ _ _ _) (aV.bF (decide_eq_false Ky) (aV.of (aZ _)))
 intro i hi ih hg
 refine zq ha Ky hi (fun h0=>(hg (i-1) Ky).1.len) (fun h=>ih (fun j hj=>?_)) (fun h=>eK (fun hv=>h (hv.good i hi)))
 by_cases c:j=i
 ·rw [c];exact h
 exact hg j Ky
end
end Go.Proofs.YtfbgaddecbiimaaGreatDoor.Q
end
