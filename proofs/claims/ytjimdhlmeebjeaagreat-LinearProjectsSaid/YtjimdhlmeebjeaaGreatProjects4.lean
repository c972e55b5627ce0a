/- An evaluator of the program's code, what its functions come to, and what they mean: text 4. No condition. -/
import Derived.KernelRfl
import Derived.Laws.BitsLemmas
import Derived.Test.YtjimdhlmeebjeaaGreatProjects3
set_option linter.unusedSimpArgs false
set_option linter.unusedSectionVars false
section
namespace Go.Proofs.YtjimdhlmeebjeaaGreat.Q
open Go.RowKit Go.Proofs.YtjimdhlmeebjeaaGreatW.PrintWords Go.Proofs.YtjimdhlmeebjeaaGreatW.PrintMore Go.Proofs.YtjimdhlmeebjeaaGreat.V Go.Proofs.YtjimdhlmeebjeaaGreat.E
set_option linter.unusedVariables false
abbrev bE:=List aA×Int×Int×Unit
abbrev aT:=List aA×Int×aA×Unit
abbrev cZ:=aA×aA×Bool×Bool×Bool×Bool×Unit
abbrev fA:=aA×aA×aA×aA×Unit
noncomputable def az (k:Nat) (a0:Int) (a1:List aT) (a2:Int) (a3:List aA):Option Bool:=fn T orc k 5 [.v (.int .i64) a0,.v (.list av) a1,.v (.int .i64) a2,.v (.list ah) a3]
noncomputable def gm (k:Nat):Option Bool:=fn T orc k 9 []
noncomputable def gk (k:Nat) (a0:Int) (a1:List aT) (a2:Int):Option Bool:=fn T orc k 10 [.v (.int .i64) a0,.v (.list av) a1,.v (.int .i64) a2]
noncomputable def bN (k:Nat) (a0:List aA) (a1:Int):Option Bool:=fn T orc k 15 [.v (.list ah) a0,.v (.int .i64) a1]
noncomputable def bG (k:Nat) (a0:List aA):Option Bool:=fn T orc k 16 [.v (.list ah) a0]
noncomputable def aw (k:Nat) (a0:List aT) (a1:Int):Option Bool:=fn T orc k 18 [.v (.list av) a0,.v (.int .i64) a1]
noncomputable def au (k:Nat) (a0:Int) (a1:List aT):Option Bool:=fn T orc k 19 [.v (.int .i64) a0,.v (.list av) a1]
noncomputable def bu (k:Nat) (a0:List aA):Option (List aA):=fn T orc k 20 [.v (.list ah) a0]
noncomputable def bg (k:Nat) (a0:List aT) (a1:List aA):Option Bool:=fn T orc k 21 [.v (.list aD) a0,.v (.list ai) a1]
noncomputable def bX (k:Nat) (a0:List aT):Option (List aT):=fn T orc k 22 [.v (.list av) a0]
noncomputable def cI (k:Nat) (a0:Int) (a1:List aT) (a2:List aA):Option (Bool×Int×Unit):=fn T orc k 24 [.v (.int .i64) a0,.v (.list av) a1,.v (.list ah) a2]
noncomputable def dN (k:Nat) (a0:aA):Option aA:=fn T orc k 14 [.v ah a0]
noncomputable def hY (k:Nat) (a0:Int):Option aA:=fn T orc k 28 [.v (.int .i64) a0]
noncomputable def dS (k:Nat) (a0:Int):Option aA:=fn T orc k 29 [.v (.int .i64) a0]
noncomputable def cP (k:Nat):Option aA:=fn T orc k 32 []
noncomputable def bO (k:Nat) (a0:aA) (a1:Int):Option Bool:=fn T orc k 35 [.v ah a0,.v (.int .i64) a1]
noncomputable def bW (k:Nat) (a0:aA):Option Bool:=fn T orc k 36 [.v ah a0]
noncomputable def fL (k:Nat) (a0:aA) (a1:aA):Option aA:=fn T orc k 37 [.v ai a0,.v ai a1]
noncomputable def ia (k:Nat) (a0:aA) (a1:aA):Option aA:=fn T orc k 38 [.v ai a0,.v ai a1]
noncomputable def iJ (k:Nat) (a0:aA):Option aA:=fn T orc k 12 [.v ai a0]
noncomputable def gZ (k:Nat) (a0:aA):Option aA:=fn T orc k 13 [.v ai a0]
noncomputable def bR (k:Nat) (a0:Int) (a1:List aT) (a2:Int):Option (List aT×Int×Unit):=fn T orc k 17 [.v (.int .i64) a0,.v (.list av) a1,.v (.int .i64) a2]
noncomputable def aR (k:Nat) (a0:Int) (a1:List aT):Option Int:=fn T orc k 41 [.v (.int .i64) a0,.v (.list av) a1]
noncomputable def aU (k:Nat) (a0:Int) (a1:List aT):Option (List aA×List aA×Int×Unit):=fn T orc k 42 [.v (.int .i64) a0,.v (.list av) a1]
noncomputable def aV (k:Nat) (a0:List aT) (a1:List aA) (a2:Int):Option Bool:=fn T orc k 23 [.v (.list aD) a0,.v (.list ai) a1,.v (.int .i64) a2]
noncomputable def cC (k:Nat) (a0:aA):Option Bool:=fn T orc k 51 [.v ah a0]
noncomputable def eG (k:Nat) (a0:aA) (a1:Int) (a2:aA):Option Bool:=fn T orc k 52 [.v ai a0,.v (.int .i64) a1,.v ai a2]
noncomputable def bU (k:Nat) (a0:List aA) (a1:List aA):Option aA:=fn T orc k 53 [.v (.list ai) a0,.v (.list ai) a1]
noncomputable def cM (k:Nat) (a0:List aA) (a1:Int):Option Bool:=fn T orc k 56 [.v (.list ah) a0,.v (.int .i64) a1]
noncomputable def dL (k:Nat) (a0:aA) (a1:Int) (a2:aA):Option Bool:=fn T orc k 57 [.v ah a0,.v (.int .i64) a1,.v ah a2]
noncomputable def dB (k:Nat) (a0:List aA) (a1:List aA):Option aA:=fn T orc k 58 [.v (.list ah) a0,.v (.list ah) a1]
noncomputable def fi (k:Nat):Option aA:=fn T orc k 59 []
noncomputable def dD (k:Nat) (a0:aA):Option Int:=fn T orc k 60 [.v ah a0]
noncomputable def eF (k:Nat) (a0:aA) (a1:aA):Option aA:=fn T orc k 61 [.v ah a0,.v ah a1]
noncomputable def gA (k:Nat) (a0:aA) (a1:aA):Option aA:=fn T orc k 62 [.v ah a0,.v ah a1]
noncomputable def dM (k:Nat) (a0:aA):Option Int:=fn T orc k 54 [.v ai a0]
noncomputable def dm (k:Nat) (a0:aA) (a1:aA):Option aA:=fn T orc k 63 [.v ai a0,.v ai a1]
noncomputable def dK (k:Nat) (a0:aA) (a1:aA):Option aA:=fn T orc k 64 [.v ai a0,.v ai a1]
noncomputable def bf (k:Nat) (a0:List Int):Option (List Int):=fn T orc k 44 [.v (.list (.int .u32)) a0]
noncomputable def aH (k:Nat) (a0:Int):Option (List Int):=fn T orc k 66 [.v (.int .i64) a0]
noncomputable def jn (k:Nat) (a0:Int) (a1:List aT):Option Int:=fn T orc k 45 [.v (.int .i64) a0,.v (.list av) a1]
noncomputable def aB (k:Nat) (a0:List bE) (a1:Int):Option (List bE):=fn T orc k 46 [.v (.list aj) a0,.v (.int .i64) a1]
noncomputable def aQ (k:Nat) (a0:List bE):Option (List bE):=fn T orc k 47 [.v (.list aj) a0]
noncomputable def bI (k:Nat) (a0:Int) (a1:List aT):Option (List bE):=fn T orc k 48 [.v (.int .i64) a0,.v (.list av) a1]
noncomputable def sR (k:Nat) (a0:Int):Option aA:=fn T orc k 67 [.v (.int .i64) a0]
noncomputable def aZ (k:Nat) (a0:List bE):Option (bE×Bool×Unit):=fn T orc k 68 [.v (.list aj) a0]
noncomputable def bo (k:Nat) (a0:List bE) (a1:Int) (a2:List aA):Option (cZ×List aA):=fn T orc k 69 [.v (.list aj) a0,.v (.int .i64) a1,.v (.list ah) a2]
noncomputable def bD (k:Nat) (a0:List Int):Option Bool:=fn T orc k 71 [.v (.list (.int .u32)) a0]
noncomputable def aG (k:Nat) (a0:List Int) (a1:List Int):Option Int:=fn T orc k 72 [.v (.list (.int .i64)) a0,.v (.list (.int .i64)) a1]
noncomputable def ay (k:Nat) (a0:List Int) (a1:List Int):Option (List Int):=fn T orc k 73 [.v (.list (.int .i64)) a0,.v (.list (.int .i64)) a1]
noncomputable def aF (k:Nat) (a0:List Int):Option (List Int):=fn T orc k 43 [.v (.list (.int .i64)) a0]
noncomputable def oP (k:Nat) (a0:aA):Option aA:=fn T orc k 49 [.v ah a0]
noncomputable def cy (k:Nat) (a0:bE):Option aA:=fn T orc k 50 [.v aj a0]
noncomputable def dJ (k:Nat) (a0:aA) (a1:Int):Option Bool:=fn T orc k 75 [.v ah a0,.v (.int .i64) a1]
noncomputable def bL (k:Nat) (a0:List aA) (a1:Int):Option (List aA):=fn T orc k 76 [.v (.list ah) a0,.v (.int .i64) a1]
noncomputable def kL (k:Nat) (a0:aA):Option aA:=fn T orc k 77 [.v ah a0]
noncomputable def gY (k:Nat) (a0:cZ):Option (aA×cZ):=fn T orc k 78 [.v cL a0]
noncomputable def cD (k:Nat) (a0:aA) (a1:aA):Option Int:=fn T orc k 55 [.v ai a0,.v ai a1]
noncomputable def cg (k:Nat) (a0:List aA) (a1:List aA):Option (aA×List aA):=fn T orc k 1000053 [.v (.list ai) a0,.v (.list ai) a1]
noncomputable def jh (k:Nat) (a0:aA) (a1:aA):Option Int:=fn T orc k 86 [.v ah a0,.v ah a1]
noncomputable def cX (k:Nat) (a0:List Int) (a1:List Int):Option Int:=fn T orc k 89 [.v (.list (.int .u32)) a0,.v (.list (.int .u32)) a1]
noncomputable def bC (k:Nat) (a0:List Int) (a1:List Int):Option (List Int):=fn T orc k 90 [.v (.list (.int .u32)) a0,.v (.list (.int .u32)) a1]
noncomputable def dk (k:Nat) (a0:Bool) (a1:List Int) (a2:List Int):Option aA:=fn T orc k 91 [.v .bool a0,.v (.list (.int .u32)) a1,.v (.list (.int .u32)) a2]
noncomputable def dg (k:Nat) (a0:List Int) (a1:List Int):Option (List Int):=fn T orc k 92 [.v (.list (.int .u32)) a0,.v (.list (.int .u32)) a1]
noncomputable def dI (k:Nat) (a0:List Int) (a1:List Int):Option (List Int):=fn T orc k 93 [.v (.list (.int .u32)) a0,.v (.list (.int .u32)) a1]
noncomputable def aq (k:Nat) (a0:List Int) (a1:List Int):Option (List Int):=fn T orc k 94 [.v (.list (.int .i64)) a0,.v (.list (.int .i64)) a1]
noncomputable def bw (k:Nat) (a0:Bool) (a1:List Int) (a2:List Int):Option aA:=fn T orc k 95 [.v .bool a0,.v (.list (.int .i64)) a1,.v (.list (.int .i64)) a2]
noncomputable def aC (k:Nat) (a0:List Int) (a1:List Int):Option (List Int):=fn T orc k 96 [.v (.list (.int .i64)) a0,.v (.list (.int .i64)) a1]
noncomputable def aJ (k:Nat) (a0:List Int) (a1:List Int):Option (List Int):=fn T orc k 97 [.v (.list (.int .i64)) a0,.v (.list (.int .i64)) a1]
noncomputable def ax (k:Nat) (a0:List Int) (a1:Int) (a2:Int):Option (List Int):=fn T orc k 80 [.v (.list (.int .i64)) a0,.v (.int .i64) a1,.v (.int .i64) a2]
noncomputable def bc (k:Nat) (a0:List bE) (a1:Int) (a2:Int):Option (List bE):=fn T orc k 81 [.v (.list aj) a0,.v (.int .i64) a1,.v (.int .i64) a2]
noncomputable def de (k:Nat) (a0:aA) (a1:bE) (a2:aA) (a3:bE):Option bE:=fn T orc k 82 [.v ah a0,.v aj a1,.v ah a2,.v aj a3]
noncomputable def bP (k:Nat) (a0:bE):Option Bool:=fn T orc k 83 [.v aj a0]
noncomputable def cU (k:Nat) (a0:bE):Option Bool:=fn T orc k 84 [.v aj a0]
noncomputable def cA (k:Nat) (a0:bE) (a1:bE):Option Bool:=fn T orc k 85 [.v aj a0,.v aj a1]
noncomputable def kK (k:Nat):Option aA:=fn T orc k 87 []
noncomputable def fJ (k:Nat) (a0:bE):Option bE:=fn T orc k 88 [.v aj a0]
noncomputable def dE (k:Nat) (a0:Int):Option (List Int):=fn T orc k 98 [.v (.int .u64) a0]
noncomputable def lZ (k:Nat) (a0:aA) (a1:aA):Option aA:=fn T orc k 99 [.v ah a0,.v ah a1]
noncomputable def nS (k:Nat) (a0:aA) (a1:aA):Option aA:=fn T orc k 100 [.v ah a0,.v ah a1]
noncomputable def aX (k:Nat) (a0:cZ) (a1:aA) (a2:Int) (a3:Bool):Option (Unit×cZ):=fn T orc k 101 [.v cL a0,.v ah a1,.v (.int .i64) a2,.v .bool a3]
noncomputable def iW (k:Nat) (a0:List Int) (a1:Int):Option Bool:=fn T orc k 105 [.v (.list (.int .u32)) a0,.v (.int .i64) a1]
noncomputable def cq (k:Nat) (a0:List Int) (a1:List Int):Option (List Int):=fn T orc k 106 [.v (.list (.int .u32)) a0,.v (.list (.int .u32)) a1]
noncomputable def bH (k:Nat) (a0:List aA):Option (List aA):=fn T orc k 107 [.v (.list ah) a0]
noncomputable def yQ (k:Nat) (a0:aA) (a1:aA):Option aA:=fn T orc k 108 [.v ah a0,.v ah a1]
noncomputable def fV (k:Nat) (a0:aA):Option aA:=fn T orc k 109 [.v ah a0]
noncomputable def yR (k:Nat) (a0:aA) (a1:aA):Option aA:=fn T orc k 110 [.v ah a0,.v ah a1]
noncomputable def jJ (k:Nat) (a0:aA) (a1:aA):Option Bool:=fn T orc k 111 [.v ah a0,.v ah a1]
noncomputable def vF (k:Nat) (a0:Int) (a1:Int):Option aA:=fn T orc k 112 [.v (.int .i64) a0,.v (.int .i64) a1]
noncomputable def cH (k:Nat) (a0:aA) (a1:aA):Option (aA×Int×Unit):=fn T orc k 113 [.v ah a0,.v ah a1]
noncomputable def num_Mid (k:Nat) (a0:aA) (a1:aA):Option aA:=fn T orc k 114 [.v ah a0,.v ah a1]
noncomputable def aI (k:Nat) (a0:List Int) (a1:List Int):Option (List Int×List Int×Unit):=fn T orc k 117 [.v (.list (.int .u32)) a0,.v (.list (.int .u32)) a1]
noncomputable def aE (k:Nat) (a0:List Int) (a1:List Int):Option (List Int×List Int×Unit):=fn T orc k 104 [.v (.list (.int .i64)) a0,.v (.list (.int .i64)) a1]
noncomputable def sO (k:Nat) (a0:aA):Option aA:=fn T orc k 119 [.v ah a0]
noncomputable def dX (k:Nat) (a0:List aA) (a1:aA):Option (List aA):=fn T orc k 123 [.v (.list ah) a0,.v ah a1]
noncomputable def lV (k:Nat) (a0:aA):Option Bool:=fn T orc k 124 [.v ah a0]
noncomputable def eC (k:Nat) (a0:fA) (a1:aA):Option (Unit×fA):=fn T orc k 125 [.v eS a0,.v ah a1]
noncomputable def nO (k:Nat) (a0:aA):Option (aA×Int×Unit):=fn T orc k 126 [.v ah a0]
noncomputable def eT (k:Nat) (a0:List aA):Option (List aA):=fn T orc k 135 [.v (.list ah) a0]
noncomputable def vG (k:Nat) (a0:aA) (a1:Int):Option Bool:=fn T orc k 136 [.v ah a0,.v (.int .i64) a1]
noncomputable def az.l0 (k m0:Nat) (x0:Int) (x1:List aT) (x2:Int) (x3:List aA) (x9:List aT) (x10:Int) (x11:Int) (x55:List aT) (x56:Int) (x57:Int):Option Bool:=lAt T orc k 5 Tryz.f5 none [1,1,1,1,1,1,0,1,0] m0 [] ⟨[(0,.v (.int .i64) x0),(1,.v (.list av) x1),(2,.v (.int .i64) x2),(3,.v (.list ah) x3),(9,.v (.list av) x9),(10,.v (.int .i64) x10),(11,.v (.int .i64) x11),(55,.v (.list av) x55),(56,.v (.int .i64) x56),(57,.v (.int .i64) x57)],[]⟩
noncomputable def az.l1 (k m0:Nat) (x1:List aT) (x2:Int) (x3:List aA) (x9:List aT) (x92:List aT) (x93:Int) (x94:Int):Option Bool:=lAt T orc k 5 Tryz.f5 none [1,1,1,1,1,1,1,1,1,0,1,0] m0 [] ⟨[(1,.v (.list av) x1),(2,.v (.int .i64) x2),(3,.v (.list ah) x3),(9,.v (.list av) x9),(92,.v (.list av) x92),(93,.v (.int .i64) x93),(94,.v (.int .i64) x94)],[]⟩
noncomputable def bN.l0 (k m0:Nat) (x11:List aA) (x12:Int) (x13:Int):Option Bool:=lAt T orc k 15 Tryz.f15 none [1,1,0,1,0] m0 [] ⟨[(11,.v (.list ah) x11),(12,.v (.int .i64) x12),(13,.v (.int .i64) x13)],[]⟩
noncomputable def bG.l0 (k m0:Nat) (x5:List aA) (x6:Int) (x7:Int):Option Bool:=lAt T orc k 16 Tryz.f16 none [1,0,1,0] m0 [] ⟨[(5,.v (.list ah) x5),(6,.v (.int .i64) x6),(7,.v (.int .i64) x7)],[]⟩
noncomputable def aw.l0 (k m0:Nat) (x1:Int) (x9:List aT) (x10:Int) (x11:Int):Option Bool:=lAt T orc k 18 Tryz.f18 none [1,0,1,0] m0 [] ⟨[(1,.v (.int .i64) x1),(9,.v (.list av) x9),(10,.v (.int .i64) x10),(11,.v (.int .i64) x11)],[]⟩
noncomputable def aw.l1 (k m1:Nat) (m0:Nat) (x1:Int) (x9:List aT) (x10:Int) (x11:Int) (x27:List aA) (x28:Int) (x29:Int):Option Bool:=lAt T orc k 18 Tryz.f18 none [1,0,1,0,0,1,1,0,0,1,1,1,0] m1 [m0] ⟨[(1,.v (.int .i64) x1),(9,.v (.list av) x9),(10,.v (.int .i64) x10),(11,.v (.int .i64) x11),(27,.v (.list ah) x27),(28,.v (.int .i64) x28),(29,.v (.int .i64) x29)],[]⟩
noncomputable def au.l0 (k m0:Nat) (x0:Int) (x20:List aT) (x21:Int) (x22:Int):Option Bool:=lAt T orc k 19 Tryz.f19 none [1,1,0,1,0] m0 [] ⟨[(0,.v (.int .i64) x0),(20,.v (.list av) x20),(21,.v (.int .i64) x21),(22,.v (.int .i64) x22)],[]⟩
noncomputable def au.l1 (k m1:Nat) (m0:Nat) (x0:Int) (x20:List aT) (x21:Int) (x22:Int) (x48:List aA) (x49:Int) (x50:Int):Option Bool:=lAt T orc k 19 Tryz.f19 none [1,1,0,1,0,0,1,1,0,0,1,1,1,0] m1 [m0] ⟨[(0,.v (.int .i64) x0),(20,.v (.list av) x20),(21,.v (.int .i64) x21),(22,.v (.int .i64) x22),(48,.v (.list ah) x48),(49,.v (.int .i64) x49),(50,.v (.int .i64) x50)],[]⟩
noncomputable def bu.l0 (k m0:Nat) (x6:List aA) (x7:Int) (x8:Int) (r3:List aA):Option (List aA):=lAt T orc k 20 Tryz.f20 none [1,1,0,1,0] m0 [] ⟨[(3,.own 3),(6,.v (.list ah) x6),(7,.v (.int .i64) x7),(8,.v (.int .i64) x8)],[(3,.arr 37 ai r3)]⟩
noncomputable def bg.l0 (k m0:Nat) (x1:List aA) (x7:List aT) (x8:Int) (x9:Int):Option Bool:=lAt T orc k 21 Tryz.f21 none [1,0,1,0] m0 [] ⟨[(1,.v (.list ai) x1),(7,.v (.list aD) x7),(8,.v (.int .i64) x8),(9,.v (.int .i64) x9)],[]⟩
noncomputable def bX.l0 (k m0:Nat) (x6:List aT) (x7:Int) (x8:Int) (r3:List aT):Option (List aT):=lAt T orc k 22 Tryz.f22 none [1,1,0,1,0] m0 [] ⟨[(3,.own 3),(6,.v (.list av) x6),(7,.v (.int .i64) x7),(8,.v (.int .i64) x8)],[(3,.arr 88 aD r3)]⟩
noncomputable def cI.l0 (k m0:Nat) (x2:List aA) (x21:List aT) (x22:Int) (x23:Int):Option (Bool×Int×Unit):=lAt T orc k 24 Tryz.f24 none [1,1,1,0,1,0] m0 [] ⟨[(2,.v (.list ah) x2),(21,.v (.list av) x21),(22,.v (.int .i64) x22),(23,.v (.int .i64) x23)],[]⟩
noncomputable def bR.l0 (k m0:Nat) (x0:Int) (x33:List bE) (x34:Int) (x35:Int) (r9:List aT):Option (List aT×Int×Unit):=lAt T orc k 17 Tryz.f17 none [1,1,1,1,0,1,0] m0 [] ⟨[(0,.v (.int .i64) x0),(9,.own 9),(33,.v (.list aj) x33),(34,.v (.int .i64) x34),(35,.v (.int .i64) x35)],[(9,.arr 32 av r9)]⟩
noncomputable def bR.l1 (k m1:Nat) (m0:Nat) (x0:Int) (x33:List bE) (x34:Int) (x35:Int) (x48:List aA) (x49:Int) (x50:Int) (r9:List aT) (q12_1:Int) (q12_2:aA) (r44:List aA):Option (List aT×Int×Unit):=lAt T orc k 17 Tryz.f17 none [1,1,1,1,0,1,0,0,1,1,0,0,1,1,0,1,0] m1 [m0] ⟨[(0,.v (.int .i64) x0),(9,.own 9),(12,.po 2000012 0 []),(33,.v (.list aj) x33),(34,.v (.int .i64) x34),(35,.v (.int .i64) x35),(48,.v (.list ah) x48),(49,.v (.int .i64) x49),(50,.v (.int .i64) x50)],[(9,.arr 32 av r9),(2000012,.obox 32 [.own 44,.v (.int .i64) q12_1,.v ah q12_2]),(44,.arr 30 ah r44)]⟩
noncomputable def aR.l0 (k m0:Nat) (x0:Int) (x20:List aT) (x21:Int) (x22:Int):Option Int:=lAt T orc k 41 Tryz.f41 none [1,1,0,1,0] m0 [] ⟨[(0,.v (.int .i64) x0),(20,.v (.list av) x20),(21,.v (.int .i64) x21),(22,.v (.int .i64) x22)],[]⟩
noncomputable def aR.l1 (k m1:Nat) (m0:Nat) (x0:Int) (x20:List aT) (x21:Int) (x22:Int) (x48:List aA) (x49:Int) (x50:Int):Option Int:=lAt T orc k 41 Tryz.f41 none [1,1,0,1,0,0,1,1,0,0,1,1,1,0] m1 [m0] ⟨[(0,.v (.int .i64) x0),(20,.v (.list av) x20),(21,.v (.int .i64) x21),(22,.v (.int .i64) x22),(48,.v (.list ah) x48),(49,.v (.int .i64) x49),(50,.v (.int .i64) x50)],[]⟩
noncomputable def aU.l0 (k m0:Nat) (x0:Int) (x1:List aT) (x30:Int) (x31:Int) (r29:List (List bE)):Option (List aA×List aA×Int×Unit):=lAt T orc k 42 Tryz.f42 none [1,1,1,0,1,0] m0 [] ⟨[(0,.v (.int .i64) x0),(1,.v (.list av) x1),(8,.own 29),(30,.v (.int .i64) x30),(31,.v (.int .i64) x31)],[(29,.arr 79 (.list aj) r29)]⟩
noncomputable def aU.l1 (k m0:Nat) (x0:Int) (x1:List aT) (x45:Int) (x46:Int) (r29:List (List bE)):Option (List aA×List aA×Int×Unit):=lAt T orc k 42 Tryz.f42 none [1,1,1,1,0,1,0] m0 [] ⟨[(0,.v (.int .i64) x0),(1,.v (.list av) x1),(8,.own 29),(44,.own 29),(45,.v (.int .i64) x45),(46,.v (.int .i64) x46)],[(29,.arr 79 (.list aj) r29),(29,.arr 79 (.list aj) r29)]⟩
noncomputable def aU.l2 (k m1:Nat) (m0:Nat) (x75:Int) (x76:Int) (r64:List aA):Option (List aA×List aA×Int×Unit):=lAt T orc k 42 Tryz.f42 none [1,1,1,1,0,1,0,0,1,1,0,0,1,1,1,0,1,0,1,0,1,0] m1 [m0] ⟨[(14,.own 64),(74,.own 64),(75,.v (.int .i64) x75),(76,.v (.int .i64) x76)],[(64,.arr 30 ah r64),(64,.arr 30 ah r64)]⟩
noncomputable def aU.l3 (k m0:Nat) (x17:Int) (r90:List aA) (r29:List (List bE)):Option (List aA×List aA×Int×Unit):=lAt T orc k 42 Tryz.f42 none [1,1,1,1,1,1,0,1,0] m0 [] ⟨[(4,.own 90),(8,.own 29),(17,.v (.int .i64) x17)],[(90,.arr 30 ah r90),(29,.arr 79 (.list aj) r29)]⟩
noncomputable def aV.l0 (k m0:Nat) (x0:List aT) (x2:Int) (x10:Bool) (x11:Bool) (x12:Bool) (x13:Bool) (x23:List aT) (x24:Int) (x25:Int) (r20:List aA) (r8:aA) (r9:aA):Option Bool:=lAt T orc k 23 Tryz.f23 none [1,1,1,1,0,1,0] m0 [] ⟨[(0,.v (.list aD) x0),(2,.v (.int .i64) x2),(7,.own 20),(8,.po 8 0 []),(9,.po 9 0 []),(10,.v .bool x10),(11,.v .bool x11),(12,.v .bool x12),(13,.v .bool x13),(23,.v (.list aD) x23),(24,.v (.int .i64) x24),(25,.v (.int .i64) x25)],[(20,.arr 37 ai r20),(8,.box 37 ai r8),(9,.box 37 ai r9)]⟩
noncomputable def bU.l0 (k m0:Nat) (x0:List aA) (x1:List aA) (x9:Int) (x10:Int) (r4:aA) (r5:aA):Option aA:=lAt T orc k 53 Tryz.f53 none [1,1,0,1,0] m0 [] ⟨[(0,.v (.list ai) x0),(1,.v (.list ai) x1),(4,.po 4 0 []),(5,.po 5 0 []),(9,.v (.int .i64) x9),(10,.v (.int .i64) x10)],[(4,.box 37 ai r4),(5,.box 37 ai r5)]⟩
noncomputable def cM.l0 (k m0:Nat) (x0:List aA) (x1:Int) (x7:List aA) (x8:Int) (x9:Int):Option Bool:=lAt T orc k 56 Tryz.f56 none [1,0,1,0] m0 [] ⟨[(0,.v (.list ah) x0),(1,.v (.int .i64) x1),(7,.v (.list ah) x7),(8,.v (.int .i64) x8),(9,.v (.int .i64) x9)],[]⟩
noncomputable def dB.l0 (k m0:Nat) (x1:List aA) (x9:List aA) (x10:Int) (x11:Int) (r4:aA) (r5:aA):Option aA:=lAt T orc k 58 Tryz.f58 none [1,1,0,1,0] m0 [] ⟨[(1,.v (.list ah) x1),(4,.po 4 0 []),(5,.po 5 0 []),(9,.v (.list ah) x9),(10,.v (.int .i64) x10),(11,.v (.int .i64) x11)],[(4,.box 30 ah r4),(5,.box 30 ah r5)]⟩
noncomputable def bf.l0 (k m0:Nat) (x0:List Int) (x3:List Int) (x4:Int):Option (List Int):=lAt T orc k 44 Tryz.f44 none [1,1,0,1,0] m0 [] ⟨[(0,.v (.list (.int .u32)) x0),(3,.v (.list (.int .i64)) x3),(4,.v (.int .i64) x4)],[]⟩
noncomputable def aB.l0 (k m0:Nat) (x0:List bE) (x1:Int) (x16:List bE) (x17:Int) (x18:Int):Option (List bE):=lAt T orc k 46 Tryz.f46 none [1,0,1,0] m0 [] ⟨[(0,.v (.list aj) x0),(1,.v (.int .i64) x1),(16,.v (.list aj) x16),(17,.v (.int .i64) x17),(18,.v (.int .i64) x18)],[]⟩
noncomputable def aB.l1 (k m0:Nat) (x1:Int) (x41:List bE) (x42:Int) (x43:Int) (r7:List bE) (r8:List bE) (r9:List bE):Option (List bE):=lAt T orc k 46 Tryz.f46 none [1,1,1,0,1,0] m0 [] ⟨[(1,.v (.int .i64) x1),(7,.own 7),(8,.own 8),(9,.own 9),(41,.v (.list aj) x41),(42,.v (.int .i64) x42),(43,.v (.int .i64) x43)],[(7,.arr 84 aj r7),(8,.arr 84 aj r8),(9,.arr 84 aj r9)]⟩
noncomputable def aB.l2 (k m0:Nat) (x1:Int) (x70:List bE) (x71:Int) (x72:Int) (r7:List bE) (r9:List bE):Option (List bE):=lAt T orc k 46 Tryz.f46 none [1,1,1,1,0,1,0] m0 [] ⟨[(1,.v (.int .i64) x1),(7,.own 7),(9,.own 9),(70,.v (.list aj) x70),(71,.v (.int .i64) x71),(72,.v (.int .i64) x72)],[(7,.arr 84 aj r7),(9,.arr 84 aj r9)]⟩
noncomputable def aB.l3 (k m1:Nat) (m0:Nat) (x1:Int) (x70:List bE) (x71:Int) (x72:Int) (x77:Int) (x78:Int) (r7:List bE) (r9:List bE) (r13:bE):Option (List bE):=lAt T orc k 46 Tryz.f46 none [1,1,1,1,0,1,0,0,1,1,0,0,1,1,0] m1 [m0] ⟨[(1,.v (.int .i64) x1),(7,.own 7),(9,.own 9),(13,.po 13 0 []),(70,.v (.list aj) x70),(71,.v (.int .i64) x71),(72,.v (.int .i64) x72),(76,.own 9),(77,.v (.int .i64) x77),(78,.v (.int .i64) x78)],[(7,.arr 84 aj r7),(9,.arr 84 aj r9),(13,.box 84 aj r13),(9,.arr 84 aj r9)]⟩
noncomputable def aQ.l0 (k m0:Nat) (x10:List bE) (x11:Int) (x12:Int) (r3:List bE):Option (List bE):=lAt T orc k 47 Tryz.f47 none [1,1,0,1,0] m0 [] ⟨[(3,.own 3),(10,.v (.list aj) x10),(11,.v (.int .i64) x11),(12,.v (.int .i64) x12)],[(3,.arr 84 aj r3)]⟩
noncomputable def aQ.l1 (k m1:Nat) (m0:Nat) (x6:Bool) (x10:List bE) (x11:Int) (x12:Int) (x24:Int) (x25:Int) (r3:List bE) (r5:bE):Option (List bE):=lAt T orc k 47 Tryz.f47 none [1,1,0,1,0,0,1,1,0,0,1,1,1,0,1,0] m1 [m0] ⟨[(3,.own 3),(5,.po 5 0 []),(6,.v .bool x6),(10,.v (.list aj) x10),(11,.v (.int .i64) x11),(12,.v (.int .i64) x12),(23,.own 3),(24,.v (.int .i64) x24),(25,.v (.int .i64) x25)],[(3,.arr 84 aj r3),(5,.box 84 aj r5),(3,.arr 84 aj r3)]⟩
noncomputable def bI.l0 (k m0:Nat) (x0:Int) (x1:List aT) (x11:List aT) (x12:Int) (x13:Int) (r5:List bE):Option (List bE):=lAt T orc k 48 Tryz.f48 none [1,1,0,1,0] m0 [] ⟨[(0,.v (.int .i64) x0),(1,.v (.list av) x1),(5,.own 5),(11,.v (.list av) x11),(12,.v (.int .i64) x12),(13,.v (.int .i64) x13)],[(5,.arr 84 aj r5)]⟩
noncomputable def bI.l1 (k m1:Nat) (m0:Nat) (x0:Int) (x1:List aT) (x6:Int) (x11:List aT) (x12:Int) (x13:Int) (x30:Int) (x31:Int) (r5:List bE) (q8_1:Int) (q8_2:Int) (r20:List aA):Option (List bE):=lAt T orc k 48 Tryz.f48 none [1,1,0,1,0,0,1,1,0,0,1,1,0,1,0] m1 [m0] ⟨[(0,.v (.int .i64) x0),(1,.v (.list av) x1),(5,.own 5),(6,.v (.int .i64) x6),(8,.po 2000008 0 []),(11,.v (.list av) x11),(12,.v (.int .i64) x12),(13,.v (.int .i64) x13),(30,.v (.int .i64) x30),(31,.v (.int .i64) x31)],[(5,.arr 84 aj r5),(2000008,.obox 84 [.own 20,.v (.int .i64) q8_1,.v (.int .i64) q8_2]),(20,.arr 30 ah r20)]⟩
noncomputable def aZ.l0 (k m0:Nat) (x6:List bE) (x7:Int) (x8:Int) (r2:bE):Option (bE×Bool×Unit):=lAt T orc k 68 Tryz.f68 none [1,0,1,0] m0 [] ⟨[(2,.po 2 0 []),(6,.v (.list aj) x6),(7,.v (.int .i64) x7),(8,.v (.int .i64) x8)],[(2,.box 84 aj r2)]⟩
noncomputable def bo.l0 (k m0:Nat) (x1:Int) (x14:List bE) (x15:Int) (x16:Int) (rl:List aA) (r6:cZ) (r7:cZ):Option (cZ×List aA):=lAt T orc k 69 Tryz.f69 (some (30,(.list ah))) [1,1,0,1,0] m0 [] ⟨[(1,.v (.int .i64) x1),(2,.own 1000000),(6,.po 6 0 []),(7,.po 7 0 []),(14,.v (.list aj) x14),(15,.v (.int .i64) x15),(16,.v (.int .i64) x16)],[(eN,.arr 30 ah rl),(6,.box 101 cL r6),(7,.box 101 cL r7),(eN,.arr 30 ah rl)]⟩
noncomputable def bo.l1 (k m1:Nat) (m0:Nat) (x1:Int) (x12:Int) (x14:List bE) (x15:Int) (x16:Int) (rl:List aA) (r6:cZ) (r7:cZ) (r9:bE) (r10:aA) (r11:aA):Option (cZ×List aA):=lAt T orc k 69 Tryz.f69 (some (30,(.list ah))) [1,1,0,1,0,0,1,1,0,0,1,1,1,1,0,1,0] m1 [m0] ⟨[(1,.v (.int .i64) x1),(2,.own 1000000),(6,.po 6 0 []),(7,.po 7 0 []),(9,.po 9 0 []),(10,.po 10 0 []),(11,.po 11 0 []),(12,.v (.int .i64) x12),(14,.v (.list aj) x14),(15,.v (.int .i64) x15),(16,.v (.int .i64) x16)],[(eN,.arr 30 ah rl),(6,.box 101 cL r6),(7,.box 101 cL r7),(9,.box 84 aj r9),(10,.box 30 ah r10),(11,.box 30 ah r11),(eN,.arr 30 ah rl)]⟩
noncomputable def bL.l0 (k m0:Nat) (x0:List aA) (x1:Int) (x10:Int) (x11:Int):Option (List aA):=lAt T orc k 76 Tryz.f76 none [1,0,1,0] m0 [] ⟨[(0,.v (.list ah) x0),(1,.v (.int .i64) x1),(10,.v (.int .i64) x10),(11,.v (.int .i64) x11)],[]⟩
noncomputable def bL.l1 (k m1:Nat) (m0:Nat) (x35:List aA) (x36:Int) (x37:Int) (r6:aA) (r34:List aA):Option (List aA):=lAt T orc k 76 Tryz.f76 none [1,0,1,0,0,1,1,0,0,1,1,0,1,1,0,1,0] m1 [m0] ⟨[(6,.po 6 0 []),(7,.own 34),(35,.v (.list ah) x35),(36,.v (.int .i64) x36),(37,.v (.int .i64) x37)],[(6,.box 30 ah r6),(34,.arr 30 ah r34)]⟩
noncomputable def cg.l0 (k m0:Nat) (x0:List aA) (x9:Int) (x10:Int) (rl:List aA) (r4:aA) (r5:aA):Option (aA×List aA):=lAt T orc k 1000053 Tryz.f53 (some (37,(.list ai))) [1,1,0,1,0] m0 [] ⟨[(0,.v (.list ai) x0),(1,.own 1000000),(4,.po 4 0 []),(5,.po 5 0 []),(9,.v (.int .i64) x9),(10,.v (.int .i64) x10)],[(eN,.arr 37 ai rl),(4,.box 37 ai r4),(5,.box 37 ai r5),(eN,.arr 37 ai rl)]⟩
noncomputable def bc.l0 (k m0:Nat) (x1:Int) (x2:Int) (x17:List bE) (x18:Int) (x19:Int) (r7:List bE) (r8:bE):Option (List bE):=lAt T orc k 81 Tryz.f81 none [1,1,1,0,1,0] m0 [] ⟨[(1,.v (.int .i64) x1),(2,.v (.int .i64) x2),(7,.own 7),(8,.po 8 0 []),(17,.v (.list aj) x17),(18,.v (.int .i64) x18),(19,.v (.int .i64) x19)],[(7,.arr 84 aj r7),(8,.box 84 aj r8)]⟩
noncomputable def de.l0 (k m0:Nat) (x25:Int) (x26:Int) (r4:aA) (r5:bE) (r6:aA) (r7:bE) (r8:bE) (q9_1:Int) (q9_2:Int) (r14:List aA):Option bE:=lAt T orc k 82 Tryz.f82 none [1,1,0,1,0] m0 [] ⟨[(4,.po 4 0 []),(5,.po 5 0 []),(6,.po 6 0 []),(7,.po 7 0 []),(8,.po 8 0 []),(9,.po 2000009 0 []),(25,.v (.int .i64) x25),(26,.v (.int .i64) x26)],[(4,.box 30 ah r4),(5,.box 84 aj r5),(6,.box 30 ah r6),(7,.box 84 aj r7),(8,.box 84 aj r8),(2000009,.obox 84 [.own 14,.v (.int .i64) q9_1,.v (.int .i64) q9_2]),(14,.arr 30 ah r14)]⟩
noncomputable def bP.l0 (k m0:Nat) (x9:List aA) (x10:Int) (x11:Int):Option Bool:=lAt T orc k 83 Tryz.f83 none [1,0,1,0] m0 [] ⟨[(9,.v (.list ah) x9),(10,.v (.int .i64) x10),(11,.v (.int .i64) x11)],[]⟩
noncomputable def cA.l0 (k m0:Nat) (x15:Int) (x16:Int) (r2:bE) (r3:bE):Option Bool:=lAt T orc k 85 Tryz.f85 none [1,1,0,1,0] m0 [] ⟨[(2,.po 2 0 []),(3,.po 3 0 []),(15,.v (.int .i64) x15),(16,.v (.int .i64) x16)],[(2,.box 84 aj r2),(3,.box 84 aj r3)]⟩
noncomputable def bH.l0 (k m0:Nat) (x0:List aA) (x3:List Int) (x4:List Int) (x17:List aA) (x18:Int) (x19:Int):Option (List aA):=lAt T orc k 107 Tryz.f107 none [1,1,1,0,1,0] m0 [] ⟨[(0,.v (.list ah) x0),(3,.v (.list (.int .u32)) x3),(4,.v (.list (.int .u32)) x4),(17,.v (.list ah) x17),(18,.v (.int .i64) x18),(19,.v (.int .i64) x19)],[]⟩
noncomputable def bH.l1 (k m0:Nat) (x0:List aA) (x3:List Int) (x4:List Int) (x37:List aA) (x38:Int) (x39:Int):Option (List aA):=lAt T orc k 107 Tryz.f107 none [1,1,1,1,0,1,0] m0 [] ⟨[(0,.v (.list ah) x0),(3,.v (.list (.int .u32)) x3),(4,.v (.list (.int .u32)) x4),(37,.v (.list ah) x37),(38,.v (.int .i64) x38),(39,.v (.int .i64) x39)],[]⟩
noncomputable def cH.l0 (k m0:Nat) (r2:aA) (r3:aA) (r4:aA) (r8:fA):Option (aA×Int×Unit):=lAt T orc k 113 Tryz.f113 none [1,1,1,0,0] m0 [] ⟨[(2,.po 2 0 []),(3,.po 3 0 []),(4,.po 4 0 []),(8,.po 8 0 [])],[(2,.box 30 ah r2),(3,.box 30 ah r3),(4,.box 30 ah r4),(8,.box 148 eS r8)]⟩
noncomputable def dX.l0 (k m0:Nat) (x11:List aA) (x12:Int) (x13:Int) (r3:aA) (r10:List aA):Option (List aA):=lAt T orc k 123 Tryz.f123 none [1,1,0,1,0] m0 [] ⟨[(3,.po 3 0 []),(5,.own 10),(11,.v (.list ah) x11),(12,.v (.int .i64) x12),(13,.v (.int .i64) x13)],[(3,.box 30 ah r3),(10,.arr 30 ah r10)]⟩
noncomputable def eT.l0 (k m0:Nat) (x0:List aA):Option (List aA):=lAt T orc k 135 Tryz.f135 none [1,0,0] m0 [] ⟨[(0,.v (.list ah) x0)],[]⟩
noncomputable def az.j0 (k:Nat) (m0:Nat) (x0:Int) (x1:List aT) (x2:Int) (x3:List aA) (x9:List aT) (x10:Int) (x11:Int) (x55:List aT) (x56:Int) (x57:Int):Option Bool :=
 az.l0 k m0 x0 x1 x2 x3 x9 x10 x11 x55 x56 (wrap64 (x57+(1:Int)))
noncomputable def aU.j0 (k:Nat) (m0:Nat) (r64:List aA):Option (List aA×List aA×Int×Unit) :=
 some (([]:List aA),r64,(0:Int),())
noncomputable def aV.j0 (k:Nat) (m0:Nat) (x0:List aT) (x2:Int) (x10:Bool) (x11:Bool) (x12:Bool) (x13:Bool) (x23:List aT) (x24:Int) (x25:Int) (r20:List aA) (r8:aA) (r9:aA):Option Bool :=
 aV.l0 k m0 x0 x2 x10 x11 x12 x13 x23 x24 (wrap64 (x25+(1:Int))) r20 r8 r9
noncomputable def eF.j0 (k:Nat) (x5:List Int) (x6:List Int) (x7:List Int) (r2:aA) (r3:aA) (r4:aA):Option aA :=
 bif r2.1==r3.1 then
  (dg k x5 x6).bind fun (v5:List Int) =>
  (dk k r2.1 v5 x7).bind fun (v6:aA) =>
  some v6
 else
  (cX k x5 x6).bind fun (v7:Int) =>
  bif decide (v7≥(0:Int)) then
   (dI k x5 x6).bind fun (v8:List Int) =>
   (dk k r2.1 v8 x7).bind fun (v9:aA) =>
   some v9
  else
   (dI k x6 x5).bind fun (v10:List Int) =>
   (dk k r3.1 v10 x7).bind fun (v11:aA) =>
   some v11
noncomputable def aB.j0 (k:Nat) (m0:Nat) (x1:Int) (x41:List bE) (x42:Int) (x43:Int) (r7:List bE) (r8:List bE) (r9:List bE):Option (List bE) :=
 aB.l1 k m0 x1 x41 x42 (wrap64 (x43+(1:Int))) r7 r8 r9
noncomputable def aQ.j0 (k:Nat) (m0:Nat) (x10:List bE) (x11:Int) (x12:Int) (r3:List bE):Option (List bE) :=
 aQ.l0 k m0 x10 x11 (wrap64 (x12+(1:Int))) r3
noncomputable def aQ.j1 (k:Nat) (m0 m1:Nat) (x6:Bool) (x10:List bE) (x11:Int) (x12:Int) (x24:Int) (x25:Int) (r3:List bE) (r5:bE):Option (List bE) :=
 aQ.l1 k m1 m0 x6 x10 x11 x12 x24 (wrap64 (x25+(1:Int))) r3 r5
noncomputable def aQ.j2 (k:Nat) (m0 m1:Nat) (x10:List bE) (x11:Int) (x12:Int) (x24:Int) (x25:Int) (r3:List bE) (r5:bE):Option (List bE) :=
 aQ.j1 k m0 m1 false x10 x11 x12 x24 x25 r3 r5
noncomputable def bI.j0 (k:Nat) (m0 m1:Nat) (x0:Int) (x1:List aT) (x6:Int) (x11:List aT) (x12:Int) (x13:Int) (x30:Int) (x31:Int) (r5:List bE) (q8_1:Int) (q8_2:Int) (r20:List aA) (r10:aA):Option (List bE) :=
 if (List.length r20+List.length ([r10]))*56≤140737488355328 then bI.l1 k m1 m0 x0 x1 x6 x11 x12 x13 x30 (wrap64 (x31+(1:Int))) r5 q8_1 q8_2 (r20++([r10])) else none
noncomputable def bo.j0 (k:Nat) (m0:Nat) (x1:Int) (x14:List bE) (x15:Int) (x16:Int) (rl:List aA) (r6:cZ) (r7:cZ):Option (cZ×List aA) :=
 bo.l0 k m0 x1 x14 x15 (wrap64 (x16+(1:Int))) rl r6 r7
noncomputable def dk.j0 (k:Nat) (x0:Bool) (x1:List Int) (x2:List Int) (r6:aA):Option aA :=
 if List.length x1*4≤140737488355328 then if List.length x2*4≤140737488355328 then some (x0,x1,x2,()) else none else none
noncomputable def bc.j0 (k:Nat) (m0:Nat) (x1:Int) (x2:Int) (x17:List bE) (x18:Int) (x19:Int) (r7:List bE) (r8:bE):Option (List bE) :=
 bc.l0 k m0 x1 x2 x17 x18 (wrap64 (x19+(1:Int))) r7 r8
noncomputable def bc.j1 (k:Nat) (m0:Nat) (x1:Int) (x2:Int) (x17:List bE) (x18:Int) (x19:Int) (r7:List bE) (r8:bE) (r10:bE):Option (List bE) :=
 if (List.length r7+List.length ([r10]))*40≤140737488355328 then bc.j0 k m0 x1 x2 x17 x18 x19 (r7++([r10])) r8 else none
noncomputable def aX.j3 (k:Nat) (x3:Bool) (x9:Int) (rl:cZ):Option (Unit×cZ) :=
 (bif rl.2.2.2.2.1 then some true else (bif x9==(0:Int) then some x3 else some false).bind fun (b5:Bool) =>
 some b5).bind fun (b6:Bool) =>
 some ((),rl.1,rl.2.1,rl.2.2.1,rl.2.2.2.1,b6,rl.2.2.2.2.2)
noncomputable def aX.j1 (k:Nat) (x3:Bool) (x9:Int) (rl:cZ) (r5:aA):Option (Unit×cZ) :=
 bif decide (x9>(0:Int)) then
  aX.j3 k x3 x9 (r5,rl.2.1,true,rl.2.2.2.1,x3,rl.2.2.2.2.2)
 else
  aX.j3 k x3 x9 rl
noncomputable def aX.j2 (k:Nat) (x3:Bool) (x8:Int) (rl:cZ):Option (Unit×cZ) :=
 (bif rl.2.2.2.2.2.1 then some true else (bif x8==(0:Int) then some x3 else some false).bind fun (b3:Bool) =>
 some b3).bind fun (b4:Bool) =>
 some ((),rl.1,rl.2.1,rl.2.2.1,rl.2.2.2.1,rl.2.2.2.2.1,b4,rl.2.2.2.2.2.2)
noncomputable def aX.j0 (k:Nat) (x3:Bool) (x8:Int) (rl:cZ) (r5:aA):Option (Unit×cZ) :=
 bif decide (x8<(0:Int)) then
  aX.j2 k x3 x8 (rl.1,r5,rl.2.2.1,true,rl.2.2.2.2.1,x3,rl.2.2.2.2.2.2)
 else
  aX.j2 k x3 x8 rl
noncomputable def fV.j0 (k:Nat) (x3:List Int) (r1:aA) (r2:aA):Option aA :=
 (dk k r1.1 x3 ([(1:Int)])).bind fun (v4:aA) =>
 some v4
noncomputable def cH.j0 (k:Nat) (r4:aA) (r8:fA):Option (aA×Int×Unit) :=
 (nS k r8.1 r8.2.1).bind fun (v30:aA) =>
 (nO k v30).bind fun (v31:aA×Int×Unit) =>
 some (v31.1,v31.2.1,())
theorem im (k:Nat) (a0:Int) (a1:List aT) (a2:Int) (a3:List aA):az (k+1) a0 a1 a2 a3 =
 (gm k ).bind fun (v1:Bool) =>
 bif !v1 then
  some false
 else
  (gk k a0 a1 (10:Int)).bind fun (v2:Bool) =>
  (bif !v2 then some true else (bN k a3 a0).bind fun (v3:Bool) =>
  some (!v3)).bind fun (b4:Bool) =>
  (bif b4 then some true else (bG k a3).bind fun (v5:Bool) =>
  some (!v5)).bind fun (b6:Bool) =>
  bif b6 then
   some true
  else
   (bR k a0 a1 a2).bind fun (v7:List aT×Int×Unit) =>
   (bif decide (a2<(0:Int)) then some true else some (decide (a2≥a0))).bind fun (b8:Bool) =>
   bif b8 then
    (bif v7.2.1==(1:Int) then some ((List.length v7.1:Int)==(0:Int)) else some false).bind fun (b9:Bool) =>
    some b9
   else
    az.l0 k k a0 a1 a2 a3 v7.1 v7.2.1 (0:Int) a1 (List.length a1:Int) (0:Int):=by
 kernel_rfl
theorem az.aO (k m0:Nat) (x0:Int) (x1:List aT) (x2:Int) (x3:List aA) (x9:List aT) (x10:Int) (x11:Int) (x55:List aT) (x56:Int) (x57:Int):az.l0 k (m0+1) x0 x1 x2 x3 x9 x10 x11 x55 x56 x57 =
 bif decide (x57<x56) then
  if 0≤x57∧x57<(List.length x55:Int) then if 0≤x2∧x2<(List.length ((rdT (t:=av) x55 x57:aT).1):Int) then bif decide ((List.length (((rdT (t:=ah) ((rdT (t:=av) x55 x57:aT).1) x2:aA).2).1):Int)>(0:Int)) then
   az.j0 k m0 x0 x1 x2 x3 x9 x10 (wrap64 (x11+(1:Int))) x55 x56 x57
  else
   az.j0 k m0 x0 x1 x2 x3 x9 x10 x11 x55 x56 x57 else none else none
 else
  bif decide (x11>(6:Int)) then
   some true
  else
   (bif x10 != (0:Int) then some true else some (decide ((List.length x9:Int)>(40:Int)))).bind fun (b10:Bool) =>
   (bif b10 then some true else (aw k x9 (20:Int)).bind fun (v11:Bool) =>
   some (!v11)).bind fun (b12:Bool) =>
   (bif b12 then some true else (au k x0 x9).bind fun (v13:Bool) =>
   some (!v13)).bind fun (b14:Bool) =>
   bif b14 then
    some false
   else
    az.l1 k k x1 x2 x3 x9 x9 (List.length x9:Int) (0:Int):=by
 kernel_rfl
theorem az.bZ (k m0:Nat) (x1:List aT) (x2:Int) (x3:List aA) (x9:List aT) (x92:List aT) (x93:Int) (x94:Int):az.l1 k (m0+1) x1 x2 x3 x9 x92 x93 x94 =
 bif decide (x94<x93) then
  if 0≤x94∧x94<(List.length x92:Int) then if 0≤x2∧x2<(List.length ((rdT (t:=av) x92 x94:aT).1):Int) then bif decide ((List.length (((rdT (t:=ah) ((rdT (t:=av) x92 x94:aT).1) x2:aA).2).1):Int)>(0:Int)) then
   some false
  else
   az.l1 k m0 x1 x2 x3 x9 x92 x93 (wrap64 (x94+(1:Int))) else none else none
 else
  (bu k x3).bind fun (v15:List aA) =>
  (bX k x9).bind fun (v16:List aT) =>
  (bg k v16 v15).bind fun (v17:Bool) =>
  (bX k x1).bind fun (v18:List aT) =>
  (aV k v18 v15 x2).bind fun (v19:Bool) =>
  some (v17==v19):=by
 kernel_rfl
theorem kY (k:Nat):gm (k+1) =
 (dS k (-1:Int)).bind fun (v1:aA) =>
 (dS k (-1:Int)).bind fun (v2:aA) =>
 (dS k (1:Int)).bind fun (v3:aA) =>
 (dS k (0:Int)).bind fun (v4:aA) =>
 (aU k (1:Int) ([([v1],(1:Int),v2,()),([v3],(1:Int),v4,())])).bind fun (v5:List aA×List aA×Int×Unit) =>
 (aU k (1:Int) ([([v1],(1:Int),v2,())])).bind fun (v6:List aA×List aA×Int×Unit) =>
 (cI k (1:Int) ([([v1],(1:Int),v2,())]) v6.1).bind fun (v7:Bool×Int×Unit) =>
 (bif v5.2.2.1==(0:Int) then some (v6.2.2.1==(0:Int)) else some false).bind fun (b8:Bool) =>
 (bif b8 then some (v7.2.1==(0:Int)) else some false).bind fun (b9:Bool) =>
 (bif b9 then some ((List.length v5.1:Int)==(0:Int)) else some false).bind fun (b10:Bool) =>
 (bif b10 then some ((List.length v5.2.1:Int)==(2:Int)) else some false).bind fun (b11:Bool) =>
 (bif b11 then some ((List.length v6.1:Int)==(1:Int)) else some false).bind fun (b12:Bool) =>
 (bif b12 then some ((List.length v6.2.1:Int)==(0:Int)) else some false).bind fun (b13:Bool) =>
 (bif b13 then some v7.1 else some false).bind fun (b14:Bool) =>
 some b14:=by
 kernel_rfl
theorem eA (k:Nat) (a0:Int) (a1:List aT) (a2:Int):gk (k+1) a0 a1 a2 =
 (bif decide (a0≤(3:Int)) then some (decide ((List.length a1:Int)≤a2)) else some false).bind fun (b1:Bool) =>
 (bif b1 then (aw k a1 (1:Int)).bind fun (v2:Bool) =>
 some v2 else some false).bind fun (b3:Bool) =>
 (bif b3 then (au k a0 a1).bind fun (v4:Bool) =>
 some v4 else some false).bind fun (b5:Bool) =>
 some b5:=by
 kernel_rfl
theorem lI (k:Nat) (a0:List aA) (a1:Int):bN (k+1) a0 a1 =
 bif (List.length a0:Int) != a1 then
  some false
 else
  bN.l0 k k a0 (List.length a0:Int) (0:Int):=by
 kernel_rfl
theorem bN.aO (k m0:Nat) (x11:List aA) (x12:Int) (x13:Int):bN.l0 k (m0+1) x11 x12 x13 =
 bif decide (x13<x12) then
  if 0≤x13∧x13<(List.length x11:Int) then (bO k (rdT (t:=ah) x11 x13:aA) (200:Int)).bind fun (v1:Bool) =>
  (bif !v1 then some true else (bW k (rdT (t:=ah) x11 x13:aA)).bind fun (v2:Bool) =>
  some (!v2)).bind fun (b3:Bool) =>
  bif b3 then
   some false
  else
   bN.l0 k m0 x11 x12 (wrap64 (x13+(1:Int))) else none
 else
  some true:=by
 kernel_rfl
theorem kX (k:Nat) (a0:List aA):bG (k+1) a0 =
 bG.l0 k k a0 (List.length a0:Int) (0:Int):=by
 kernel_rfl
theorem bG.aO (k m0:Nat) (x5:List aA) (x6:Int) (x7:Int):bG.l0 k (m0+1) x5 x6 x7 =
 bif decide (x7<x6) then
  if 0≤x7∧x7<(List.length x5:Int) then (bO k (rdT (t:=ah) x5 x7:aA) (2:Int)).bind fun (v1:Bool) =>
  bif !v1 then
   some false
  else
   bG.l0 k m0 x5 x6 (wrap64 (x7+(1:Int))) else none
 else
  some true:=by
 kernel_rfl
theorem gw (k:Nat) (a0:List aT) (a1:Int):aw (k+1) a0 a1 =
 aw.l0 k k a1 a0 (List.length a0:Int) (0:Int):=by
 kernel_rfl
theorem aw.aO (k m0:Nat) (x1:Int) (x9:List aT) (x10:Int) (x11:Int):aw.l0 k (m0+1) x1 x9 x10 x11 =
 bif decide (x11<x10) then
  if 0≤x11∧x11<(List.length x9:Int) then (bif decide ((List.length ((rdT (t:=av) x9 x11:aT).1):Int)>(12:Int)) then some true else (bO k ((((rdT (t:=av) x9 x11:aT).2).2).1) x1).bind fun (v1:Bool) =>
  some (!v1)).bind fun (b2:Bool) =>
  bif b2 then
   some false
  else
   aw.l1 k k m0 x1 x9 x10 x11 ((rdT (t:=av) x9 x11:aT).1) (List.length ((rdT (t:=av) x9 x11:aT).1):Int) (0:Int) else none
 else
  some true:=by
 kernel_rfl
theorem aw.bZ (k m1:Nat) (m0:Nat) (x1:Int) (x9:List aT) (x10:Int) (x11:Int) (x27:List aA) (x28:Int) (x29:Int):aw.l1 k (m1+1) m0 x1 x9 x10 x11 x27 x28 x29 =
 bif decide (x29<x28) then
  if 0≤x29∧x29<(List.length x27:Int) then (bO k (rdT (t:=ah) x27 x29:aA) x1).bind fun (v3:Bool) =>
  bif !v3 then
   some false
  else
   aw.l1 k m1 m0 x1 x9 x10 x11 x27 x28 (wrap64 (x29+(1:Int))) else none
 else
  aw.l0 k m0 x1 x9 x10 (wrap64 (x11+(1:Int))):=by
 kernel_rfl
theorem kO (k:Nat) (a0:Int) (a1:List aT):au (k+1) a0 a1 =
 (bif decide (a0<(0:Int)) then some true else some (decide (a0>(8:Int)))).bind fun (b1:Bool) =>
 (bif b1 then some true else some (decide ((List.length a1:Int)>(40:Int)))).bind fun (b2:Bool) =>
 bif b2 then
  some false
 else
  au.l0 k k a0 a1 (List.length a1:Int) (0:Int):=by
 kernel_rfl
theorem au.aO (k m0:Nat) (x0:Int) (x20:List aT) (x21:Int) (x22:Int):au.l0 k (m0+1) x0 x20 x21 x22 =
 bif decide (x22<x21) then
  if 0≤x22∧x22<(List.length x20:Int) then (bif (List.length ((rdT (t:=av) x20 x22:aT).1):Int) != x0 then some true else some (decide ((((rdT (t:=av) x20 x22:aT).2).1)<(0:Int)))).bind fun (b3:Bool) =>
  (bif b3 then some true else some (decide ((((rdT (t:=av) x20 x22:aT).2).1)>(2:Int)))).bind fun (b4:Bool) =>
  (bif b4 then some true else (cC k ((((rdT (t:=av) x20 x22:aT).2).2).1)).bind fun (v5:Bool) =>
  some (!v5)).bind fun (b6:Bool) =>
  bif b6 then
   some false
  else
   au.l1 k k m0 x0 x20 x21 x22 ((rdT (t:=av) x20 x22:aT).1) (List.length ((rdT (t:=av) x20 x22:aT).1):Int) (0:Int) else none
 else
  some true:=by
 kernel_rfl
theorem au.bZ (k m1:Nat) (m0:Nat) (x0:Int) (x20:List aT) (x21:Int) (x22:Int) (x48:List aA) (x49:Int) (x50:Int):au.l1 k (m1+1) m0 x0 x20 x21 x22 x48 x49 x50 =
 bif decide (x50<x49) then
  if 0≤x50∧x50<(List.length x48:Int) then (cC k (rdT (t:=ah) x48 x50:aA)).bind fun (v7:Bool) =>
  bif !v7 then
   some false
  else
   au.l1 k m1 m0 x0 x20 x21 x22 x48 x49 (wrap64 (x50+(1:Int))) else none
 else
  au.l0 k m0 x0 x20 x21 (wrap64 (x22+(1:Int))):=by
 kernel_rfl
theorem lH (k:Nat) (a0:List aA):bu (k+1) a0 =
 bu.l0 k k a0 (List.length a0:Int) (0:Int) ([]:List aA):=by
 kernel_rfl
theorem bu.aO (k m0:Nat) (x6:List aA) (x7:Int) (x8:Int) (r3:List aA):bu.l0 k (m0+1) x6 x7 x8 r3 =
 bif decide (x8<x7) then
  if 0≤x8∧x8<(List.length x6:Int) then (dN k (rdT (t:=ah) x6 x8:aA)).bind fun (v1:aA) =>
  if (List.length r3+List.length ([v1]))*56≤140737488355328 then bu.l0 k m0 x6 x7 (wrap64 (x8+(1:Int))) (r3++([v1])) else none else none
 else
  some r3:=by
 kernel_rfl
theorem kP (k:Nat) (a0:List aT) (a1:List aA):bg (k+1) a0 a1 =
 bg.l0 k k a1 a0 (List.length a0:Int) (0:Int):=by
 kernel_rfl
theorem bg.aO (k m0:Nat) (x1:List aA) (x7:List aT) (x8:Int) (x9:Int):bg.l0 k (m0+1) x1 x7 x8 x9 =
 bif decide (x9<x8) then
  if 0≤x9∧x9<(List.length x7:Int) then (bU k ((rdT (t:=aD) x7 x9:aT).1) x1).bind fun (v1:aA) =>
  (eG k v1 (((rdT (t:=aD) x7 x9:aT).2).1) ((((rdT (t:=aD) x7 x9:aT).2).2).1)).bind fun (v2:Bool) =>
  bif !v2 then
   some false
  else
   bg.l0 k m0 x1 x7 x8 (wrap64 (x9+(1:Int))) else none
 else
  some true:=by
 kernel_rfl
theorem ng (k:Nat) (a0:List aT):bX (k+1) a0 =
 bX.l0 k k a0 (List.length a0:Int) (0:Int) ([]:List aT):=by
 kernel_rfl
theorem bX.aO (k m0:Nat) (x6:List aT) (x7:Int) (x8:Int) (r3:List aT):bX.l0 k (m0+1) x6 x7 x8 r3 =
 bif decide (x8<x7) then
  if 0≤x8∧x8<(List.length x6:Int) then (bu k ((rdT (t:=av) x6 x8:aT).1)).bind fun (v1:List aA) =>
  (dN k ((((rdT (t:=av) x6 x8:aT).2).2).1)).bind fun (v2:aA) =>
  if (List.length r3+List.length ([(v1,((rdT (t:=av) x6 x8:aT).2).1,v2,())]))*88≤140737488355328 then bX.l0 k m0 x6 x7 (wrap64 (x8+(1:Int))) (r3++([(v1,((rdT (t:=av) x6 x8:aT).2).1,v2,())])) else none else none
 else
  some r3:=by
 kernel_rfl
theorem s0 (k:Nat) (a0:Int) (a1:List aT) (a2:List aA):cI (k+1) a0 a1 a2 =
 (aR k a0 a1).bind fun (v1:Int) =>
 bif v1 != (0:Int) then
  some (false,v1,())
 else
  (cM k a2 a0).bind fun (v2:Bool) =>
  bif !v2 then
   some (false,(1:Int),())
  else
   cI.l0 k k a2 a1 (List.length a1:Int) (0:Int):=by
 kernel_rfl
theorem cI.aO (k m0:Nat) (x2:List aA) (x21:List aT) (x22:Int) (x23:Int):cI.l0 k (m0+1) x2 x21 x22 x23 =
 bif decide (x23<x22) then
  if 0≤x23∧x23<(List.length x21:Int) then (dB k ((rdT (t:=av) x21 x23:aT).1) x2).bind fun (v3:aA) =>
  (dL k v3 (((rdT (t:=av) x21 x23:aT).2).1) ((((rdT (t:=av) x21 x23:aT).2).2).1)).bind fun (v4:Bool) =>
  bif !v4 then
   some (false,(0:Int),())
  else
   cI.l0 k m0 x2 x21 x22 (wrap64 (x23+(1:Int))) else none
 else
  some (true,(0:Int),()):=by
 kernel_rfl
theorem ni (k:Nat) (a0:aA):dN (k+1) a0 =
 (bf k a0.2.1).bind fun (v1:List Int) =>
 (bf k a0.2.2.1).bind fun (v2:List Int) =>
 some (a0.1,v1,v2,()):=by
 kernel_rfl
theorem iZ (k:Nat) (a0:Int):hY (k+1) a0 =
 bif decide (a0<(0:Int)) then
  (aH k (wrap64 (-a0))).bind fun (v1:List Int) =>
  some (true,v1,[(1:Int)],())
 else
  (aH k a0).bind fun (v2:List Int) =>
  some (false,v2,[(1:Int)],()):=by
 kernel_rfl
theorem mB (k:Nat) (a0:Int):dS (k+1) a0 =
 (hY k a0).bind fun (v1:aA) =>
 (iJ k v1).bind fun (v2:aA) =>
 some v2:=by
 kernel_rfl
theorem lJ (k:Nat):cP (k+1) =
 some (false,[],[(1:Int)],()):=by
 kernel_rfl
theorem kS (k:Nat) (a0:aA) (a1:Int):bO (k+1) a0 a1 =
 (bif decide ((List.length a0.2.1:Int)≤a1) then some (decide ((List.length a0.2.2.1:Int)≤a1)) else some false).bind fun (b1:Bool) =>
 some b1:=by
 kernel_rfl
theorem ey (k:Nat) (a0:aA):bW (k+1) a0 =
 (bD k a0.2.1).bind fun (v1:Bool) =>
 (bif !v1 then some true else (bD k a0.2.2.1).bind fun (v2:Bool) =>
 some (!v2)).bind fun (b3:Bool) =>
 (bif b3 then some true else some ((List.length a0.2.2.1:Int)==(0:Int))).bind fun (b4:Bool) =>
 bif b4 then
  some false
 else
  bif (List.length a0.2.1:Int)==(0:Int) then
   (bif !a0.1 then some ((List.length a0.2.2.1:Int)==(1:Int)) else some false).bind fun (b5:Bool) =>
   (bif b5 then if 0≤(0:Int)∧(0:Int)<(List.length a0.2.2.1:Int) then some ((rdT (t:=(.int .u32)) a0.2.2.1 (0:Int):Int)==(1:Int)) else none else some false).bind fun (b6:Bool) =>
   some b6
  else
   (bf k a0.2.1).bind fun (v7:List Int) =>
   (bf k a0.2.2.1).bind fun (v8:List Int) =>
   (ay k v7 v8).bind fun (v9:List Int) =>
   (aG k v9 ([(1:Int)])).bind fun (v10:Int) =>
   some (v10==(0:Int)):=by
 kernel_rfl
theorem mf (k:Nat) (a0:aA) (a1:aA):fL (k+1) a0 a1 =
 (gZ k a1).bind fun (v1:aA) =>
 (dm k a0 v1).bind fun (v2:aA) =>
 some v2:=by
 kernel_rfl
theorem mh (k:Nat) (a0:aA) (a1:aA):ia (k+1) a0 a1 =
 (dK k a0 (a1.1,a1.2.2.1,a1.2.1,())).bind fun (v1:aA) =>
 some v1:=by
 kernel_rfl
theorem nh (k:Nat) (a0:aA):iJ (k+1) a0 =
 (aF k a0.2.1).bind fun (v1:List Int) =>
 (aF k a0.2.2.1).bind fun (v2:List Int) =>
 some (a0.1,v1,v2,()):=by
 kernel_rfl
theorem iY (k:Nat) (a0:aA):gZ (k+1) a0 =
 bif (List.length a0.2.1:Int)==(0:Int) then
  some a0
 else
  some (!a0.1,a0.2.1,a0.2.2.1,()):=by
 kernel_rfl
theorem kq (k:Nat) (a0:Int) (a1:List aT) (a2:Int):bR (k+1) a0 a1 a2 =
 (jn k a0 a1).bind fun (v1:Int) =>
 bif v1 != (0:Int) then
  some ([],v1,())
 else
  (bif decide (a2<(0:Int)) then some true else some (decide (a2≥a0))).bind fun (b2:Bool) =>
  bif b2 then
   some ([],(1:Int),())
  else
   (bI k a0 a1).bind fun (v3:List bE) =>
   (aQ k v3).bind fun (v4:List bE) =>
   (aB k v4 a2).bind fun (v5:List bE) =>
   bR.l0 k k a0 v5 (List.length v5:Int) (0:Int) ([]:List aT):=by
 kernel_rfl
theorem bR.aO (k m0:Nat) (x0:Int) (x33:List bE) (x34:Int) (x35:Int) (r9:List aT):bR.l0 k (m0+1) x0 x33 x34 x35 r9 =
 bif decide (x35<x34) then
  if 0≤x35∧x35<(List.length x33:Int) then (cy k (rdT (t:=aj) x33 x35:bE)).bind fun (v6:aA) =>
  (oP k v6).bind fun (v7:aA) =>
  if 0≤x0∧x0≤(List.length ((rdT (t:=aj) x33 x35:bE).1):Int) then bR.l1 k k m0 x0 x33 x34 x35 (List.take (Int.toNat x0) ((rdT (t:=aj) x33 x35:bE).1)) (List.length (List.take (Int.toNat x0) ((rdT (t:=aj) x33 x35:bE).1)):Int) (0:Int) r9 ((((rdT (t:=aj) x33 x35:bE).2).2).1) v7 ([]:List aA) else none else none
 else
  (aR k x0 r9).bind fun (v8:Int) =>
  bif v8 != (0:Int) then
   some ([],(2:Int),())
  else
   some (r9,(0:Int),()):=by
 kernel_rfl
theorem bR.bZ (k m1:Nat) (m0:Nat) (x0:Int) (x33:List bE) (x34:Int) (x35:Int) (x48:List aA) (x49:Int) (x50:Int) (r9:List aT) (q12_1:Int) (q12_2:aA) (r44:List aA):bR.l1 k (m1+1) m0 x0 x33 x34 x35 x48 x49 x50 r9 q12_1 q12_2 r44 =
 bif decide (x50<x49) then
  if 0≤x50∧x50<(List.length x48:Int) then (oP k (rdT (t:=ah) x48 x50:aA)).bind fun (v9:aA) =>
  if (List.length r44+List.length ([v9]))*56≤140737488355328 then bR.l1 k m1 m0 x0 x33 x34 x35 x48 x49 (wrap64 (x50+(1:Int))) r9 q12_1 q12_2 (r44++([v9])) else none else none
 else
  if (List.length r9+List.length ([(r44,q12_1,q12_2,())]))*88≤140737488355328 then bR.l0 k m0 x0 x33 x34 (wrap64 (x35+(1:Int))) (r9++([(r44,q12_1,q12_2,())])) else none:=by
 kernel_rfl
theorem s7 (k:Nat) (a0:Int) (a1:List aT):aR (k+1) a0 a1 =
 (bif decide (a0<(0:Int)) then some true else some (decide (a0>(8:Int)))).bind fun (b1:Bool) =>
 (bif b1 then some true else some (decide ((List.length a1:Int)>(40:Int)))).bind fun (b2:Bool) =>
 bif b2 then
  some (3:Int)
 else
  aR.l0 k k a0 a1 (List.length a1:Int) (0:Int):=by
 kernel_rfl
theorem aR.aO (k m0:Nat) (x0:Int) (x20:List aT) (x21:Int) (x22:Int):aR.l0 k (m0+1) x0 x20 x21 x22 =
 bif decide (x22<x21) then
  if 0≤x22∧x22<(List.length x20:Int) then (bif (List.length ((rdT (t:=av) x20 x22:aT).1):Int) != x0 then some true else some (decide ((((rdT (t:=av) x20 x22:aT).2).1)<(0:Int)))).bind fun (b3:Bool) =>
  (bif b3 then some true else some (decide ((((rdT (t:=av) x20 x22:aT).2).1)>(2:Int)))).bind fun (b4:Bool) =>
  (bif b4 then some true else (dJ k ((((rdT (t:=av) x20 x22:aT).2).2).1) (20:Int)).bind fun (v5:Bool) =>
  some (!v5)).bind fun (b6:Bool) =>
  bif b6 then
   some (3:Int)
  else
   aR.l1 k k m0 x0 x20 x21 x22 ((rdT (t:=av) x20 x22:aT).1) (List.length ((rdT (t:=av) x20 x22:aT).1):Int) (0:Int) else none
 else
  some (0:Int):=by
 kernel_rfl
theorem aR.bZ (k m1:Nat) (m0:Nat) (x0:Int) (x20:List aT) (x21:Int) (x22:Int) (x48:List aA) (x49:Int) (x50:Int):aR.l1 k (m1+1) m0 x0 x20 x21 x22 x48 x49 x50 =
 bif decide (x50<x49) then
  if 0≤x50∧x50<(List.length x48:Int) then (dJ k (rdT (t:=ah) x48 x50:aA) (20:Int)).bind fun (v7:Bool) =>
  bif !v7 then
   some (3:Int)
  else
   aR.l1 k m1 m0 x0 x20 x21 x22 x48 x49 (wrap64 (x50+(1:Int))) else none
 else
  aR.l0 k m0 x0 x20 x21 (wrap64 (x22+(1:Int))):=by
 kernel_rfl
theorem sZ (k:Nat) (a0:Int) (a1:List aT):aU (k+1) a0 a1 =
 (jn k a0 a1).bind fun (v1:Int) =>
 bif v1 != (0:Int) then
  some (([]:List aA),[],v1,())
 else
  (bI k a0 a1).bind fun (v2:List bE) =>
  (aQ k v2).bind fun (v3:List bE) =>
  aU.l0 k k a0 a1 a0 (0:Int) ([v3]):=by
 kernel_rfl
theorem aU.aO (k m0:Nat) (x0:Int) (x1:List aT) (x30:Int) (x31:Int) (r29:List (List bE)):aU.l0 k (m0+1) x0 x1 x30 x31 r29 =
 bif decide (x31<x30) then
  if 0≤x31∧x31<(List.length r29:Int) then (aB k (rdT (t:=(.list aj)) r29 x31:List bE) x31).bind fun (v4:List bE) =>
  if (List.length r29+List.length ([v4]))*24≤140737488355328 then aU.l0 k m0 x0 x1 x30 (wrap64 (x31+(1:Int))) (r29++([v4])) else none else none
 else
  aU.l1 k k x0 x1 (List.length r29:Int) (0:Int) r29:=by
 kernel_rfl
theorem aU.bZ (k m0:Nat) (x0:Int) (x1:List aT) (x45:Int) (x46:Int) (r29:List (List bE)):aU.l1 k (m0+1) x0 x1 x45 x46 r29 =
 bif decide (x46<x45) then
  if 0≤x46∧x46<(List.length r29:Int) then (aZ k (rdT (t:=(.list aj)) r29 x46:List bE)).bind fun (v5:bE×Bool×Unit) =>
  bif v5.2.1 then
   if 0≤(wrap64 (x0+(1:Int)))∧(wrap64 (x0+(1:Int)))≤(List.length v5.1.1:Int) then (bL k (List.drop (Int.toNat (wrap64 (x0+(1:Int)))) v5.1.1) (List.length x1:Int)).bind fun (v6:List aA) =>
   if List.length v6*56≤140737488355328 then (bif v5.1.2.2.1==(0:Int) then (cy k v5.1).bind fun (v7:aA) =>
   (dD k v7).bind fun (v8:Int) =>
   some (decide (v8>(0:Int))) else some false).bind fun (b9:Bool) =>
   bif b9 then
    aU.l2 k k m0 (List.length v6:Int) (0:Int) v6
   else
    aU.j0 k m0 v6 else none else none
  else
   aU.l1 k m0 x0 x1 x45 (wrap64 (x46+(1:Int))) r29 else none
 else
  if 0≤x0∧x0≤x0∧56*(Int.toNat x0)≤281474976710656∧(Int.toNat x0)≤maxLen then aU.l3 k k (wrap64 (x0-(1:Int))) (List.replicate (Int.toNat x0) ((false,[],[],()):aA)) r29 else none:=by
 kernel_rfl
theorem aU.tf (k m1:Nat) (m0:Nat) (x75:Int) (x76:Int) (r64:List aA):aU.l2 k (m1+1) m0 x75 x76 r64 =
 bif decide (x76<x75) then
  if 0≤x76∧x76<(List.length r64:Int) then (kL k (rdT (t:=ah) r64 x76:aA)).bind fun (v10:aA) =>
  if 0≤x76∧x76<(List.length r64:Int) then aU.l2 k m1 m0 x75 (wrap64 (x76+(1:Int))) (List.set r64 (Int.toNat x76) v10) else none else none
 else
  aU.j0 k m0 r64:=by
 kernel_rfl
theorem aU.td (k m0:Nat) (x17:Int) (r90:List aA) (r29:List (List bE)):aU.l3 k (m0+1) x17 r90 r29 =
 bif decide (x17≥(0:Int)) then
  if 0≤x17∧x17<(List.length r29:Int) then (bo k (rdT (t:=(.list aj)) r29 x17:List bE) x17 r90).bind fun (v11:cZ×List aA) =>
  (gY k v11.1).bind fun (v12:aA×cZ) =>
  if 0≤x17∧x17<(List.length v11.2:Int) then aU.l3 k m0 (wrap64 (x17-(1:Int))) (List.set v11.2 (Int.toNat x17) v12.1) r29 else none else none
 else
  some (r90,[],(0:Int),()):=by
 kernel_rfl
theorem ks (k:Nat) (a0:List aT) (a1:List aA) (a2:Int):aV (k+1) a0 a1 a2 =
 if (List.length ([]:List aA)+List.length a1)*56≤140737488355328 then aV.l0 k k a0 a2 false false false false a0 (List.length a0:Int) (0:Int) (([]:List aA)++a1) (false,[],[],()) (false,[],[],()) else none:=by
 kernel_rfl
theorem aV.aO (k m0:Nat) (x0:List aT) (x2:Int) (x10:Bool) (x11:Bool) (x12:Bool) (x13:Bool) (x23:List aT) (x24:Int) (x25:Int) (r20:List aA) (r8:aA) (r9:aA):aV.l0 k (m0+1) x0 x2 x10 x11 x12 x13 x23 x24 x25 r20 r8 r9 =
 bif decide (x25<x24) then
  if 0≤x25∧x25<(List.length x23:Int) then if 0≤x2∧x2<(List.length ((rdT (t:=aD) x23 x25:aT).1):Int) then (cP k ).bind fun (v1:aA) =>
  if 0≤x2∧x2<(List.length r20:Int) then (cg k ((rdT (t:=aD) x23 x25:aT).1) (List.set r20 (Int.toNat x2) v1)).bind fun (v2:aA×List aA) =>
  (fL k ((((rdT (t:=aD) x23 x25:aT).2).2).1) v2.1).bind fun (v3:aA) =>
  (dM k (rdT (t:=ai) ((rdT (t:=aD) x23 x25:aT).1) x2:aA)).bind fun (v4:Int) =>
  bif v4==(0:Int) then
   (cP k ).bind fun (v5:aA) =>
   (eG k v5 (((rdT (t:=aD) x23 x25:aT).2).1) v3).bind fun (v6:Bool) =>
   bif !v6 then
    some false
   else
    aV.j0 k m0 x0 x2 x10 x11 x12 x13 x23 x24 x25 v2.2 r8 r9
  else
   (ia k v3 (rdT (t:=ai) ((rdT (t:=aD) x23 x25:aT).1) x2:aA)).bind fun (v7:aA) =>
   bif (((rdT (t:=aD) x23 x25:aT).2).1)==(0:Int) then
    if 0≤x2∧x2<(List.length v2.2:Int) then (bg k x0 (List.set v2.2 (Int.toNat x2) v7)).bind fun (v8:Bool) =>
    some v8 else none
   else
    (dM k (rdT (t:=ai) ((rdT (t:=aD) x23 x25:aT).1) x2:aA)).bind fun (v9:Int) =>
    bif decide (v9>(0:Int)) then
     (bif !x11 then some true else (cD k v7 r9).bind fun (v10:Int) =>
     some (decide (v10<(0:Int)))).bind fun (b11:Bool) =>
     bif b11 then
      aV.j0 k m0 x0 x2 x10 true x12 ((((rdT (t:=aD) x23 x25:aT).2).1)==(2:Int)) x23 x24 x25 v2.2 r8 v7
     else
      (cD k v7 r9).bind fun (v12:Int) =>
      (bif v12==(0:Int) then some ((((rdT (t:=aD) x23 x25:aT).2).1)==(2:Int)) else some false).bind fun (b13:Bool) =>
      bif b13 then
       aV.j0 k m0 x0 x2 x10 x11 x12 true x23 x24 x25 v2.2 r8 r9
      else
       aV.j0 k m0 x0 x2 x10 x11 x12 x13 x23 x24 x25 v2.2 r8 r9
    else
     (bif !x10 then some true else (cD k v7 r8).bind fun (v14:Int) =>
     some (decide (v14>(0:Int)))).bind fun (b15:Bool) =>
     bif b15 then
      aV.j0 k m0 x0 x2 true x11 ((((rdT (t:=aD) x23 x25:aT).2).1)==(2:Int)) x13 x23 x24 x25 v2.2 v7 r9
     else
      (cD k v7 r8).bind fun (v16:Int) =>
      (bif v16==(0:Int) then some ((((rdT (t:=aD) x23 x25:aT).2).1)==(2:Int)) else some false).bind fun (b17:Bool) =>
      bif b17 then
       aV.j0 k m0 x0 x2 x10 x11 true x13 x23 x24 x25 v2.2 r8 r9
      else
       aV.j0 k m0 x0 x2 x10 x11 x12 x13 x23 x24 x25 v2.2 r8 r9 else none else none else none
 else
  (bif !x10 then some true else some (!x11)).bind fun (b18:Bool) =>
  bif b18 then
   some true
  else
   (cD k r8 r9).bind fun (v19:Int) =>
   (bif decide (v19<(0:Int)) then some true else (bif v19==(0:Int) then some (!x12) else some false).bind fun (b20:Bool) =>
   (bif b20 then some (!x13) else some false).bind fun (b21:Bool) =>
   some b21).bind fun (b22:Bool) =>
   some b22:=by
 kernel_rfl
theorem gO (k:Nat) (a0:aA):cC (k+1) a0 =
 (bO k a0 (20:Int)).bind fun (v1:Bool) =>
 (bif v1 then (bW k a0).bind fun (v2:Bool) =>
 some v2 else some false).bind fun (b3:Bool) =>
 some b3:=by
 kernel_rfl
theorem lG (k:Nat) (a0:aA) (a1:Int) (a2:aA):eG (k+1) a0 a1 a2 =
 (cD k a0 a2).bind fun (v1:Int) =>
 (bif a1==(0:Int) then some (v1==(0:Int)) else some false).bind fun (b2:Bool) =>
 (bif b2 then some true else (bif a1==(1:Int) then some (decide (v1≤(0:Int))) else some false).bind fun (b3:Bool) =>
 some b3).bind fun (b4:Bool) =>
 (bif b4 then some true else (bif a1==(2:Int) then some (decide (v1<(0:Int))) else some false).bind fun (b5:Bool) =>
 some b5).bind fun (b6:Bool) =>
 some b6:=by
 kernel_rfl
theorem me (k:Nat) (a0:List aA) (a1:List aA):bU (k+1) a0 a1 =
 (cP k ).bind fun (v1:aA) =>
 bU.l0 k k a0 a1 (List.length a0:Int) (0:Int) (false,[],[],()) v1:=by
 kernel_rfl
theorem bU.aO (k m0:Nat) (x0:List aA) (x1:List aA) (x9:Int) (x10:Int) (r4:aA) (r5:aA):bU.l0 k (m0+1) x0 x1 x9 x10 r4 r5 =
 bif decide (x10<x9) then
  if 0≤x10∧x10<(List.length x0:Int) then if 0≤x10∧x10<(List.length x1:Int) then (dK k (rdT (t:=ai) x0 x10:aA) (rdT (t:=ai) x1 x10:aA)).bind fun (v2:aA) =>
  (dm k r5 v2).bind fun (v3:aA) =>
  bU.l0 k m0 x0 x1 x9 (wrap64 (x10+(1:Int))) r4 v3 else none else none
 else
  some r5:=by
 kernel_rfl
theorem pW (k:Nat) (a0:List aA) (a1:Int):cM (k+1) a0 a1 =
 cM.l0 k k a0 a1 a0 (List.length a0:Int) (0:Int):=by
 kernel_rfl
theorem cM.aO (k m0:Nat) (x0:List aA) (x1:Int) (x7:List aA) (x8:Int) (x9:Int):cM.l0 k (m0+1) x0 x1 x7 x8 x9 =
 bif decide (x9<x8) then
  if 0≤x9∧x9<(List.length x7:Int) then (dJ k (rdT (t:=ah) x7 x9:aA) (200:Int)).bind fun (v1:Bool) =>
  bif !v1 then
   some false
  else
   cM.l0 k m0 x0 x1 x7 x8 (wrap64 (x9+(1:Int))) else none
 else
  some ((List.length x0:Int)==x1):=by
 kernel_rfl
theorem nW (k:Nat) (a0:aA) (a1:Int) (a2:aA):dL (k+1) a0 a1 a2 =
 (jh k a0 a2).bind fun (v1:Int) =>
 (bif v1==(0:Int) then some (decide (a1<(2:Int))) else some false).bind fun (b2:Bool) =>
 (bif b2 then some true else (bif decide (v1<(0:Int)) then some (decide (a1>(0:Int))) else some false).bind fun (b3:Bool) =>
 some b3).bind fun (b4:Bool) =>
 some b4:=by
 kernel_rfl
theorem vM (k:Nat) (a0:List aA) (a1:List aA):dB (k+1) a0 a1 =
 (fi k ).bind fun (v1:aA) =>
 dB.l0 k k a1 a0 (List.length a0:Int) (0:Int) (false,[],[],()) v1:=by
 kernel_rfl
theorem dB.aO (k m0:Nat) (x1:List aA) (x9:List aA) (x10:Int) (x11:Int) (r4:aA) (r5:aA):dB.l0 k (m0+1) x1 x9 x10 x11 r4 r5 =
 bif decide (x11<x10) then
  if 0≤x11∧x11<(List.length x9:Int) then if 0≤x11∧x11<(List.length x1:Int) then (gA k (rdT (t:=ah) x9 x11:aA) (rdT (t:=ah) x1 x11:aA)).bind fun (v2:aA) =>
  (eF k r5 v2).bind fun (v3:aA) =>
  dB.l0 k m0 x1 x9 x10 (wrap64 (x11+(1:Int))) r4 v3 else none else none
 else
  some r5:=by
 kernel_rfl
theorem yN (k:Nat):fi (k+1) =
 some (false,[],[(1:Int)],()):=by
 kernel_rfl
theorem yP (k:Nat) (a0:aA):dD (k+1) a0 =
 bif (List.length a0.2.1:Int)==(0:Int) then
  some (0:Int)
 else
  bif a0.1 then
   some (-1:Int)
  else
   some (1:Int):=by
 kernel_rfl
theorem uy (k:Nat) (a0:aA) (a1:aA):eF (k+1) a0 a1 =
 (cX k a0.2.2.1 a1.2.2.1).bind fun (v1:Int) =>
 bif v1 != (0:Int) then
  (bC k a0.2.1 a1.2.2.1).bind fun (v2:List Int) =>
  (bC k a1.2.1 a0.2.2.1).bind fun (v3:List Int) =>
  (bC k a0.2.2.1 a1.2.2.1).bind fun (v4:List Int) =>
  eF.j0 k v2 v3 v4 a0 a1 (false,[],[],())
 else
  eF.j0 k a0.2.1 a1.2.1 a0.2.2.1 a0 a1 (false,[],[],()):=by
 kernel_rfl
theorem B0 (k:Nat) (a0:aA) (a1:aA):gA (k+1) a0 a1 =
 (bC k a0.2.1 a1.2.1).bind fun (v1:List Int) =>
 (bC k a0.2.2.1 a1.2.2.1).bind fun (v2:List Int) =>
 (dk k (a0.1 != a1.1) v1 v2).bind fun (v3:aA) =>
 some v3:=by
 kernel_rfl
theorem lK (k:Nat) (a0:aA):dM (k+1) a0 =
 bif (List.length a0.2.1:Int)==(0:Int) then
  some (0:Int)
 else
  bif a0.1 then
   some (-1:Int)
  else
   some (1:Int):=by
 kernel_rfl
theorem fY (k:Nat) (a0:aA) (a1:aA):dm (k+1) a0 a1 =
 (aq k a0.2.1 a1.2.2.1).bind fun (v1:List Int) =>
 (aq k a1.2.1 a0.2.2.1).bind fun (v2:List Int) =>
 (aq k a0.2.2.1 a1.2.2.1).bind fun (v3:List Int) =>
 bif a0.1==a1.1 then
  (aC k v1 v2).bind fun (v4:List Int) =>
  (bw k a0.1 v4 v3).bind fun (v5:aA) =>
  some v5
 else
  (aG k v1 v2).bind fun (v6:Int) =>
  bif decide (v6≥(0:Int)) then
   (aJ k v1 v2).bind fun (v7:List Int) =>
   (bw k a0.1 v7 v3).bind fun (v8:aA) =>
   some v8
  else
   (aJ k v2 v1).bind fun (v9:List Int) =>
   (bw k a1.1 v9 v3).bind fun (v10:aA) =>
   some v10:=by
 kernel_rfl
theorem mg (k:Nat) (a0:aA) (a1:aA):dK (k+1) a0 a1 =
 (aq k a0.2.1 a1.2.1).bind fun (v1:List Int) =>
 (aq k a0.2.2.1 a1.2.2.1).bind fun (v2:List Int) =>
 (bw k (a0.1 != a1.1) v1 v2).bind fun (v3:aA) =>
 some v3:=by
 kernel_rfl
theorem nj (k:Nat) (a0:List Int):bf (k+1) a0 =
 bf.l0 k k a0 [] (wrap64 ((List.length a0:Int)-(1:Int))):=by
 kernel_rfl
theorem bf.aO (k m0:Nat) (x0:List Int) (x3:List Int) (x4:Int):bf.l0 k (m0+1) x0 x3 x4 =
 bif decide (x4≥(0:Int)) then
  if 0≤x4∧x4<(List.length x0:Int) then (ax k x3 (65536:Int) (wrap64 (shr .u32 (rdT (t:=(.int .u32)) x0 x4:Int) (16:Int)))).bind fun (v1:List Int) =>
  if 0≤x4∧x4<(List.length x0:Int) then (ax k v1 (65536:Int) (wrap64 (Go.bits .and .u32 (rdT (t:=(.int .u32)) x0 x4:Int) (65535:Int)))).bind fun (v2:List Int) =>
  bf.l0 k m0 x0 v2 (wrap64 (x4-(1:Int))) else none else none
 else
  some x3:=by
 kernel_rfl
theorem mu (k:Nat) (a0:Int):aH (k+1) a0=P.aH.f k a0:=by
 kernel_rfl
theorem qW (k:Nat) (a0:Int) (a1:List aT):jn (k+1) a0 a1 =
 (aR k a0 a1).bind fun (v1:Int) =>
 bif v1 != (0:Int) then
  some v1
 else
  (bif decide (a0>(3:Int)) then some true else some (decide ((List.length a1:Int)>(10:Int)))).bind fun (b2:Bool) =>
  bif b2 then
   some (60:Int)
  else
   some (0:Int):=by
 kernel_rfl
theorem nY (k:Nat) (a0:List bE) (a1:Int):aB (k+1) a0 a1 =
 aB.l0 k k a0 a1 a0 (List.length a0:Int) (0:Int):=by
 kernel_rfl
theorem aB.aO (k m0:Nat) (x0:List bE) (x1:Int) (x16:List bE) (x17:Int) (x18:Int):aB.l0 k (m0+1) x0 x1 x16 x17 x18 =
 bif decide (x18<x17) then
  if 0≤x18∧x18<(List.length x16:Int) then (bif ((((rdT (t:=aj) x16 x18:bE).2).2).1)==(0:Int) then if 0≤x1∧x1<(List.length ((rdT (t:=aj) x16 x18:bE).1):Int) then (dD k (rdT (t:=ah) ((rdT (t:=aj) x16 x18:bE).1) x1:aA)).bind fun (v1:Int) =>
  some (v1 != (0:Int)) else none else some false).bind fun (b2:Bool) =>
  bif b2 then
   (bc k x0 x18 x1).bind fun (v3:List bE) =>
   (aQ k v3).bind fun (v4:List bE) =>
   some v4
  else
   aB.l0 k m0 x0 x1 x16 x17 (wrap64 (x18+(1:Int))) else none
 else
  aB.l1 k k x1 x0 (List.length x0:Int) (0:Int) ([]:List bE) ([]:List bE) ([]:List bE):=by
 kernel_rfl
theorem aB.bZ (k m0:Nat) (x1:Int) (x41:List bE) (x42:Int) (x43:Int) (r7:List bE) (r8:List bE) (r9:List bE):aB.l1 k (m0+1) x1 x41 x42 x43 r7 r8 r9 =
 bif decide (x43<x42) then
  if 0≤x43∧x43<(List.length x41:Int) then if 0≤x1∧x1<(List.length ((rdT (t:=aj) x41 x43:bE).1):Int) then (dD k (rdT (t:=ah) ((rdT (t:=aj) x41 x43:bE).1) x1:aA)).bind fun (v5:Int) =>
  bif v5==(0:Int) then
   if (List.length r7+List.length ([(rdT (t:=aj) x41 x43:bE)]))*40≤140737488355328 then aB.j0 k m0 x1 x41 x42 x43 (r7++([(rdT (t:=aj) x41 x43:bE)])) r8 r9 else none
  else
   bif v5==(1:Int) then
    if (List.length r9+List.length ([(rdT (t:=aj) x41 x43:bE)]))*40≤140737488355328 then aB.j0 k m0 x1 x41 x42 x43 r7 r8 (r9++([(rdT (t:=aj) x41 x43:bE)])) else none
   else
    if (List.length r8+List.length ([(rdT (t:=aj) x41 x43:bE)]))*40≤140737488355328 then aB.j0 k m0 x1 x41 x42 x43 r7 (r8++([(rdT (t:=aj) x41 x43:bE)])) r9 else none else none else none
 else
  aB.l2 k k x1 r8 (List.length r8:Int) (0:Int) r7 r9:=by
 kernel_rfl
theorem aB.tf (k m0:Nat) (x1:Int) (x70:List bE) (x71:Int) (x72:Int) (r7:List bE) (r9:List bE):aB.l2 k (m0+1) x1 x70 x71 x72 r7 r9 =
 bif decide (x72<x71) then
  if 0≤x72∧x72<(List.length x70:Int) then aB.l3 k k m0 x1 x70 x71 x72 (List.length r9:Int) (0:Int) r7 r9 (rdT (t:=aj) x70 x72:bE) else none
 else
  (aQ k r7).bind fun (v6:List bE) =>
  some v6:=by
 kernel_rfl
theorem aB.td (k m1:Nat) (m0:Nat) (x1:Int) (x70:List bE) (x71:Int) (x72:Int) (x77:Int) (x78:Int) (r7:List bE) (r9:List bE) (r13:bE):aB.l3 k (m1+1) m0 x1 x70 x71 x72 x77 x78 r7 r9 r13 =
 bif decide (x78<x77) then
  if 0≤x78∧x78<(List.length r9:Int) then if 0≤x1∧x1<(List.length ((rdT (t:=aj) r9 x78:bE).1):Int) then if 0≤x1∧x1<(List.length r13.1:Int) then (kL k (rdT (t:=ah) r13.1 x1:aA)).bind fun (v7:aA) =>
  (de k (rdT (t:=ah) ((rdT (t:=aj) r9 x78:bE).1) x1:aA) r13 v7 (rdT (t:=aj) r9 x78:bE)).bind fun (v8:bE) =>
  if (List.length r7+List.length ([v8]))*40≤140737488355328 then aB.l3 k m1 m0 x1 x70 x71 x72 x77 (wrap64 (x78+(1:Int))) (r7++([v8])) r9 r13 else none else none else none else none
 else
  aB.l2 k m0 x1 x70 x71 (wrap64 (x72+(1:Int))) r7 r9:=by
 kernel_rfl
theorem sY (k:Nat) (a0:List bE):aQ (k+1) a0 =
 aQ.l0 k k a0 (List.length a0:Int) (0:Int) ([]:List bE):=by
 kernel_rfl
theorem aQ.aO (k m0:Nat) (x10:List bE) (x11:Int) (x12:Int) (r3:List bE):aQ.l0 k (m0+1) x10 x11 x12 r3 =
 bif decide (x12<x11) then
  if 0≤x12∧x12<(List.length x10:Int) then (bP k (rdT (t:=aj) x10 x12:bE)).bind fun (v1:Bool) =>
  (bif v1 then (cU k (rdT (t:=aj) x10 x12:bE)).bind fun (v2:Bool) =>
  some (!v2) else some false).bind fun (b3:Bool) =>
  bif b3 then
   aQ.j0 k m0 x10 x11 x12 r3
  else
   aQ.l1 k k m0 true x10 x11 x12 (List.length r3:Int) (0:Int) r3 (rdT (t:=aj) x10 x12:bE) else none
 else
  some r3:=by
 kernel_rfl
theorem aQ.bZ (k m1:Nat) (m0:Nat) (x6:Bool) (x10:List bE) (x11:Int) (x12:Int) (x24:Int) (x25:Int) (r3:List bE) (r5:bE):aQ.l1 k (m1+1) m0 x6 x10 x11 x12 x24 x25 r3 r5 =
 bif decide (x25<x24) then
  if 0≤x25∧x25<(List.length r3:Int) then (bif !x6 then some true else (cA k r5 (rdT (t:=aj) r3 x25:bE)).bind fun (v4:Bool) =>
  some (!v4)).bind fun (b5:Bool) =>
  bif b5 then
   aQ.j1 k m0 m1 x6 x10 x11 x12 x24 x25 r3 r5
  else
   (cy k r5).bind fun (v6:aA) =>
   (cy k (rdT (t:=aj) r3 x25:bE)).bind fun (v7:aA) =>
   (jh k v6 v7).bind fun (v8:Int) =>
   (bif decide (v8<(0:Int)) then some true else (bif v8==(0:Int) then some (decide (r5.2.2.1>((((rdT (t:=aj) r3 x25:bE).2).2).1))) else some false).bind fun (b9:Bool) =>
   some b9).bind fun (b10:Bool) =>
   bif b10 then
    if 0≤x25∧x25<(List.length r3:Int) then aQ.j2 k m0 m1 x10 x11 x12 x24 x25 (List.set r3 (Int.toNat x25) r5) r5 else none
   else
    aQ.j2 k m0 m1 x10 x11 x12 x24 x25 r3 r5 else none
 else
  bif x6 then
   if (List.length r3+List.length ([r5]))*40≤140737488355328 then aQ.j0 k m0 x10 x11 x12 (r3++([r5])) else none
  else
   aQ.j0 k m0 x10 x11 x12 r3:=by
 kernel_rfl
theorem qU (k:Nat) (a0:Int) (a1:List aT):bI (k+1) a0 a1 =
 bI.l0 k k a0 a1 a1 (List.length a1:Int) (0:Int) ([]:List bE):=by
 kernel_rfl
theorem bI.aO (k m0:Nat) (x0:Int) (x1:List aT) (x11:List aT) (x12:Int) (x13:Int) (r5:List bE):bI.l0 k (m0+1) x0 x1 x11 x12 x13 r5 =
 bif decide (x13<x12) then
  if 0≤x13∧x13<(List.length x11:Int) then if List.length ((rdT (t:=av) x11 x13:aT).1)*56≤140737488355328 then if (List.length ((rdT (t:=av) x11 x13:aT).1)+List.length ([(((rdT (t:=av) x11 x13:aT).2).2).1]))*56≤140737488355328 then bI.l1 k k m0 x0 x1 x13 x11 x12 x13 (List.length x1:Int) (0:Int) r5 x0 (((rdT (t:=av) x11 x13:aT).2).1) (((rdT (t:=av) x11 x13:aT).1)++([(((rdT (t:=av) x11 x13:aT).2).2).1])) else none else none else none
 else
  some r5:=by
 kernel_rfl
theorem bI.bZ (k m1:Nat) (m0:Nat) (x0:Int) (x1:List aT) (x6:Int) (x11:List aT) (x12:Int) (x13:Int) (x30:Int) (x31:Int) (r5:List bE) (q8_1:Int) (q8_2:Int) (r20:List aA):bI.l1 k (m1+1) m0 x0 x1 x6 x11 x12 x13 x30 x31 r5 q8_1 q8_2 r20 =
 bif decide (x31<x30) then
  (fi k ).bind fun (v1:aA) =>
  bif x31==x6 then
   (kK k ).bind fun (v2:aA) =>
   bI.j0 k m0 m1 x0 x1 x6 x11 x12 x13 x30 x31 r5 q8_1 q8_2 r20 v2
  else
   bI.j0 k m0 m1 x0 x1 x6 x11 x12 x13 x30 x31 r5 q8_1 q8_2 r20 v1
 else
  (fJ k (r20,q8_1,q8_2,())).bind fun (v3:bE) =>
  if (List.length r5+List.length ([v3]))*40≤140737488355328 then bI.l0 k m0 x0 x1 x11 x12 (wrap64 (x13+(1:Int))) (r5++([v3])) else none:=by
 kernel_rfl
theorem pO (k:Nat) (a0:Int):sR (k+1) a0 =
 bif decide (a0<(0:Int)) then
  (dE k (IntKind.u64.wrap ((IntKind.u64.wrap (wrap64 (-(wrap64 (a0+(1:Int))))))+(1:Int)))).bind fun (v1:List Int) =>
  (dk k true v1 ([(1:Int)])).bind fun (v2:aA) =>
  some v2
 else
  (dE k (IntKind.u64.wrap (a0))).bind fun (v3:List Int) =>
  (dk k false v3 ([(1:Int)])).bind fun (v4:aA) =>
  some v4:=by
 kernel_rfl
theorem gX (k:Nat) (a0:List bE):aZ (k+1) a0 =
 aZ.l0 k k a0 (List.length a0:Int) (0:Int) ([],(0:Int),(0:Int),()):=by
 kernel_rfl
theorem aZ.aO (k m0:Nat) (x6:List bE) (x7:Int) (x8:Int) (r2:bE):aZ.l0 k (m0+1) x6 x7 x8 r2 =
 bif decide (x8<x7) then
  if 0≤x8∧x8<(List.length x6:Int) then (cU k (rdT (t:=aj) x6 x8:bE)).bind fun (v1:Bool) =>
  bif v1 then
   some ((rdT (t:=aj) x6 x8:bE),true,())
  else
   aZ.l0 k m0 x6 x7 (wrap64 (x8+(1:Int))) r2 else none
 else
  some (([],(0:Int),(0:Int),()),false,()):=by
 kernel_rfl
theorem qV (k:Nat) (a0:List bE) (a1:Int) (a2:List aA):bo (k+1) a0 a1 a2 =
 bo.l0 k k a1 a0 (List.length a0:Int) (0:Int) a2 ((false,[],[],()),(false,[],[],()),false,false,false,false,()) ((false,[],[],()),(false,[],[],()),false,false,false,false,()):=by
 kernel_rfl
theorem bo.aO (k m0:Nat) (x1:Int) (x14:List bE) (x15:Int) (x16:Int) (rl:List aA) (r6:cZ) (r7:cZ):bo.l0 k (m0+1) x1 x14 x15 x16 rl r6 r7 =
 bif decide (x16<x15) then
  if 0≤x16∧x16<(List.length x14:Int) then if 0≤x1∧x1<(List.length ((rdT (t:=aj) x14 x16:bE).1):Int) then (dD k (rdT (t:=ah) ((rdT (t:=aj) x14 x16:bE).1) x1:aA)).bind fun (v1:Int) =>
  bif v1==(0:Int) then
   bo.j0 k m0 x1 x14 x15 x16 rl r6 r7
  else
   (cy k (rdT (t:=aj) x14 x16:bE)).bind fun (v2:aA) =>
   bo.l1 k k m0 x1 (wrap64 (x1+(1:Int))) x14 x15 x16 rl r6 r7 (rdT (t:=aj) x14 x16:bE) (rdT (t:=ah) ((rdT (t:=aj) x14 x16:bE).1) x1:aA) v2 else none else none
 else
  some (r7,rl):=by
 kernel_rfl
theorem bo.bZ (k m1:Nat) (m0:Nat) (x1:Int) (x12:Int) (x14:List bE) (x15:Int) (x16:Int) (rl:List aA) (r6:cZ) (r7:cZ) (r9:bE) (r10:aA) (r11:aA):bo.l1 k (m1+1) m0 x1 x12 x14 x15 x16 rl r6 r7 r9 r10 r11 =
 bif decide (x12<r9.2.1) then
  if 0≤x12∧x12<(List.length r9.1:Int) then if 0≤x12∧x12<(List.length rl:Int) then (gA k (rdT (t:=ah) r9.1 x12:aA) (rdT (t:=ah) rl x12:aA)).bind fun (v3:aA) =>
  (lZ k r11 v3).bind fun (v4:aA) =>
  bo.l1 k m1 m0 x1 (wrap64 (x12+(1:Int))) x14 x15 x16 rl r6 r7 r9 r10 v4 else none else none
 else
  (nS k r11 r10).bind fun (v5:aA) =>
  bif r9.2.2.1==(0:Int) then
   (aX k r7 v5 (1:Int) false).bind fun (v6:Unit×cZ) =>
   (aX k v6.2 v5 (-1:Int) false).bind fun (v7:Unit×cZ) =>
   bo.j0 k m0 x1 x14 x15 x16 rl r6 v7.2
  else
   (dD k r10).bind fun (v8:Int) =>
   (aX k r7 v5 v8 (r9.2.2.1==(2:Int))).bind fun (v9:Unit×cZ) =>
   bo.j0 k m0 x1 x14 x15 x16 rl r6 v9.2:=by
 kernel_rfl
theorem kU (k:Nat) (a0:List Int):bD (k+1) a0=P.bD.f a0:=by
 kernel_rfl
theorem my (k:Nat) (a0:List Int) (a1:List Int):aG (k+1) a0 a1=P.aG.f k a0 a1:=by
 kernel_rfl
theorem mv (k:Nat) (a0:List Int) (a1:List Int):ay (k+1) a0 a1=P.ay.f k a0 a1:=by
 kernel_rfl
theorem kT (k:Nat) (a0:List Int):aF (k+1) a0=P.aF.f k a0:=by
 kernel_rfl
theorem yV (k:Nat) (a0:aA):oP (k+1) a0 =
 if List.length a0.2.1*4≤140737488355328 then if List.length a0.2.2.1*4≤140737488355328 then some (a0.1,a0.2.1,a0.2.2.1,()) else none else none:=by
 kernel_rfl
theorem lF (k:Nat) (a0:bE):cy (k+1) a0 =
 if 0≤a0.2.1∧a0.2.1<(List.length a0.1:Int) then some (rdT (t:=ah) a0.1 a0.2.1:aA) else none:=by
 kernel_rfl
theorem fu (k:Nat) (a0:aA) (a1:Int):dJ (k+1) a0 a1 =
 (iW k a0.2.1 a1).bind fun (v1:Bool) =>
 (bif !v1 then some true else (iW k a0.2.2.1 a1).bind fun (v2:Bool) =>
 some (!v2)).bind fun (b3:Bool) =>
 (bif b3 then some true else some ((List.length a0.2.2.1:Int)==(0:Int))).bind fun (b4:Bool) =>
 bif b4 then
  some false
 else
  bif (List.length a0.2.1:Int)==(0:Int) then
   (bif !a0.1 then some ((List.length a0.2.2.1:Int)==(1:Int)) else some false).bind fun (b5:Bool) =>
   (bif b5 then if 0≤(0:Int)∧(0:Int)<(List.length a0.2.2.1:Int) then some ((rdT (t:=(.int .u32)) a0.2.2.1 (0:Int):Int)==(1:Int)) else none else some false).bind fun (b6:Bool) =>
   some b6
  else
   (bif (List.length a0.2.2.1:Int)==(1:Int) then if 0≤(0:Int)∧(0:Int)<(List.length a0.2.2.1:Int) then some ((rdT (t:=(.int .u32)) a0.2.2.1 (0:Int):Int)==(1:Int)) else none else some false).bind fun (b7:Bool) =>
   bif b7 then
    some true
   else
    (cq k a0.2.1 a0.2.2.1).bind fun (v8:List Int) =>
    (bif (List.length v8:Int)==(1:Int) then if 0≤(0:Int)∧(0:Int)<(List.length v8:Int) then some ((rdT (t:=(.int .u32)) v8 (0:Int):Int)==(1:Int)) else none else some false).bind fun (b9:Bool) =>
    some b9:=by
 kernel_rfl
theorem pV (k:Nat) (a0:List aA) (a1:Int):bL (k+1) a0 a1 =
 bL.l0 k k a0 a1 a1 (0:Int):=by
 kernel_rfl
theorem bL.aO (k m0:Nat) (x0:List aA) (x1:Int) (x10:Int) (x11:Int):bL.l0 k (m0+1) x0 x1 x10 x11 =
 bif decide (x11<x10) then
  if 0≤x11∧x11<(List.length x0:Int) then (dD k (rdT (t:=ah) x0 x11:aA)).bind fun (v1:Int) =>
  bif v1 != (0:Int) then
   if 0≤x1∧x1≤(List.length x0:Int) then (bH k (List.take (Int.toNat x1) x0)).bind fun (v2:List aA) =>
   if 0≤x11∧x11<(List.length v2:Int) then if 0≤x11∧x11<(List.length x0:Int) then (nS k (rdT (t:=ah) v2 x11:aA) (rdT (t:=ah) x0 x11:aA)).bind fun (v3:aA) =>
   if 0≤(List.length x0:Int)∧(List.length x0:Int)≤(List.length x0:Int)∧56*(Int.toNat (List.length x0:Int))≤281474976710656∧(Int.toNat (List.length x0:Int))≤maxLen then bL.l1 k k m0 x0 (List.length x0:Int) (0:Int) v3 (List.replicate (Int.toNat (List.length x0:Int)) ((false,[],[],()):aA)) else none else none else none else none
  else
   bL.l0 k m0 x0 x1 x10 (wrap64 (x11+(1:Int))) else none
 else
  some x0:=by
 kernel_rfl
theorem bL.bZ (k m1:Nat) (m0:Nat) (x35:List aA) (x36:Int) (x37:Int) (r6:aA) (r34:List aA):bL.l1 k (m1+1) m0 x35 x36 x37 r6 r34 =
 bif decide (x37<x36) then
  if 0≤x37∧x37<(List.length x35:Int) then (gA k (rdT (t:=ah) x35 x37:aA) r6).bind fun (v4:aA) =>
  if 0≤x37∧x37<(List.length r34:Int) then bL.l1 k m1 m0 x35 x36 (wrap64 (x37+(1:Int))) r6 (List.set r34 (Int.toNat x37) v4) else none else none
 else
  some r34:=by
 kernel_rfl
theorem BZ (k:Nat) (a0:aA):kL (k+1) a0 =
 (oP k a0).bind fun (v1:aA) =>
 (bif !v1.1 then some (decide ((List.length v1.2.1:Int)>(0:Int))) else some false).bind fun (b2:Bool) =>
 some (b2,v1.2):=by
 kernel_rfl
theorem dQ (k:Nat) (a0:cZ):gY (k+1) a0 =
 (bif !a0.2.2.1 then some (!a0.2.2.2.1) else some false).bind fun (b1:Bool) =>
 bif b1 then
  (fi k ).bind fun (v2:aA) =>
  some (v2,a0)
 else
  bif !a0.2.2.1 then
   (fi k ).bind fun (v3:aA) =>
   (fV k a0.2.1).bind fun (v4:aA) =>
   (kK k ).bind fun (v5:aA) =>
   (lZ k v4 v5).bind fun (v6:aA) =>
   (yQ k v3 v6).bind fun (v7:aA) =>
   some (v7,a0)
  else
   bif !a0.2.2.2.1 then
    (fi k ).bind fun (v8:aA) =>
    (fV k a0.1).bind fun (v9:aA) =>
    (kK k ).bind fun (v10:aA) =>
    (eF k v9 v10).bind fun (v11:aA) =>
    (yR k v8 v11).bind fun (v12:aA) =>
    some (v12,a0)
   else
    (jJ k a0.1 a0.2.1).bind fun (v13:Bool) =>
    bif v13 then
     some (a0.1,a0)
    else
     (lZ k a0.2.1 a0.1).bind fun (v14:aA) =>
     (vF k (1:Int) (4:Int)).bind fun (v15:aA) =>
     (gA k v14 v15).bind fun (v16:aA) =>
     (eF k a0.1 v16).bind fun (v17:aA) =>
     (lZ k a0.2.1 v16).bind fun (v18:aA) =>
     (cH k v17 v18).bind fun (v19:aA×Int×Unit) =>
     bif v19.2.1 != (0:Int) then
      (num_Mid k a0.1 a0.2.1).bind fun (v20:aA) =>
      some (v20,a0)
     else
      some (v19.1,a0):=by
 kernel_rfl
theorem mi (k:Nat) (a0:aA) (a1:aA):cD (k+1) a0 a1 =
 (fL k a0 a1).bind fun (v1:aA) =>
 (dM k v1).bind fun (v2:Int) =>
 some v2:=by
 kernel_rfl
theorem kQ (k:Nat) (a0:List aA) (a1:List aA):cg (k+1) a0 a1 =
 (cP k ).bind fun (v1:aA) =>
 cg.l0 k k a0 (List.length a0:Int) (0:Int) a1 (false,[],[],()) v1:=by
 kernel_rfl
theorem cg.aO (k m0:Nat) (x0:List aA) (x9:Int) (x10:Int) (rl:List aA) (r4:aA) (r5:aA):cg.l0 k (m0+1) x0 x9 x10 rl r4 r5 =
 bif decide (x10<x9) then
  if 0≤x10∧x10<(List.length x0:Int) then if 0≤x10∧x10<(List.length rl:Int) then (dK k (rdT (t:=ai) x0 x10:aA) (rdT (t:=ai) rl x10:aA)).bind fun (v2:aA) =>
  (dm k r5 v2).bind fun (v3:aA) =>
  cg.l0 k m0 x0 x9 (wrap64 (x10+(1:Int))) rl r4 v3 else none else none
 else
  some (r5,rl):=by
 kernel_rfl
theorem B7 (k:Nat) (a0:aA) (a1:aA):jh (k+1) a0 a1 =
 (dD k a0).bind fun (v1:Int) =>
 (dD k a1).bind fun (v2:Int) =>
 bif v1 != v2 then
  bif decide (v1<v2) then
   some (-1:Int)
  else
   some (1:Int)
 else
  (bC k a0.2.1 a1.2.2.1).bind fun (v3:List Int) =>
  (bC k a1.2.1 a0.2.2.1).bind fun (v4:List Int) =>
  (cX k v3 v4).bind fun (v5:Int) =>
  bif a0.1 then
   some (wrap64 (-v5))
  else
   some v5:=by
 kernel_rfl
theorem Ck (k:Nat) (a0:List Int) (a1:List Int):cX (k+1) a0 a1=P.cX.f k a0 a1:=by
 kernel_rfl
theorem Cg (k:Nat) (a0:List Int) (a1:List Int):bC (k+1) a0 a1=P.bC.f k a0 a1:=by
 kernel_rfl
theorem nR (k:Nat) (a0:Bool) (a1:List Int) (a2:List Int):dk (k+1) a0 a1 a2 =
 bif (List.length a1:Int)==(0:Int) then
  (fi k ).bind fun (v1:aA) =>
  some v1
 else
  (cq k a1 a2).bind fun (v2:List Int) =>
  (bif (List.length v2:Int) != (1:Int) then some true else if 0≤(0:Int)∧(0:Int)<(List.length v2:Int) then some ((rdT (t:=(.int .u32)) v2 (0:Int):Int) != (1:Int)) else none).bind fun (b3:Bool) =>
  bif b3 then
   (aI k a1 v2).bind fun (v4:List Int×List Int×Unit) =>
   (aI k a2 v2).bind fun (v5:List Int×List Int×Unit) =>
   dk.j0 k a0 v4.1 v5.1 (false,[],[],())
  else
   dk.j0 k a0 a1 a2 (false,[],[],()):=by
 kernel_rfl
theorem Co (k:Nat) (a0:List Int) (a1:List Int):dg (k+1) a0 a1=P.dg.f k a0 a1:=by
 kernel_rfl
theorem Cc (k:Nat) (a0:List Int) (a1:List Int):dI (k+1) a0 a1=P.dI.f k a0 a1:=by
 kernel_rfl
theorem mr (k:Nat) (a0:List Int) (a1:List Int):aq (k+1) a0 a1=P.aq.f k a0 a1:=by
 kernel_rfl
theorem eL (k:Nat) (a0:Bool) (a1:List Int) (a2:List Int):bw (k+1) a0 a1 a2 =
 bif (List.length a1:Int)==(0:Int) then
  (cP k ).bind fun (v1:aA) =>
  some v1
 else
  (bif (List.length a2:Int)==(1:Int) then if 0≤(0:Int)∧(0:Int)<(List.length a2:Int) then some ((rdT (t:=(.int .i64)) a2 (0:Int):Int)==(1:Int)) else none else some false).bind fun (b2:Bool) =>
  bif b2 then
   some (a0,a1,a2,())
  else
   (ay k a1 a2).bind fun (v3:List Int) =>
   (bif (List.length v3:Int)==(1:Int) then if 0≤(0:Int)∧(0:Int)<(List.length v3:Int) then some ((rdT (t:=(.int .i64)) v3 (0:Int):Int)==(1:Int)) else none else some false).bind fun (b4:Bool) =>
   bif b4 then
    some (a0,a1,a2,())
   else
    (aE k a1 v3).bind fun (v5:List Int×List Int×Unit) =>
    (aE k a2 v3).bind fun (v6:List Int×List Int×Unit) =>
    some (a0,v5.1,v6.1,()):=by
 kernel_rfl
theorem mA (k:Nat) (a0:List Int) (a1:List Int):aC (k+1) a0 a1=P.aC.f k a0 a1:=by
 kernel_rfl
theorem mo (k:Nat) (a0:List Int) (a1:List Int):aJ (k+1) a0 a1=P.aJ.f k a0 a1:=by
 kernel_rfl
theorem kV (k:Nat) (a0:List Int) (a1:Int) (a2:Int):ax (k+1) a0 a1 a2=P.ax.f k a0 a1 a2:=by
 kernel_rfl
theorem nf (k:Nat) (a0:List bE) (a1:Int) (a2:Int):bc (k+1) a0 a1 a2 =
 if 0≤a1∧a1<(List.length a0:Int) then bc.l0 k k a1 a2 a0 (List.length a0:Int) (0:Int) ([]:List bE) (rdT (t:=aj) a0 a1:bE) else none:=by
 kernel_rfl
theorem bc.aO (k m0:Nat) (x1:Int) (x2:Int) (x17:List bE) (x18:Int) (x19:Int) (r7:List bE) (r8:bE):bc.l0 k (m0+1) x1 x2 x17 x18 x19 r7 r8 =
 bif decide (x19<x18) then
  if 0≤x19∧x19<(List.length x17:Int) then bif x19==x1 then
   bc.j0 k m0 x1 x2 x17 x18 x19 r7 r8
  else
   if 0≤x2∧x2<(List.length ((rdT (t:=aj) x17 x19:bE).1):Int) then (dD k (rdT (t:=ah) ((rdT (t:=aj) x17 x19:bE).1) x2:aA)).bind fun (v1:Int) =>
   bif v1 != (0:Int) then
    (kK k ).bind fun (v2:aA) =>
    if 0≤x2∧x2<(List.length r8.1:Int) then (nS k (rdT (t:=ah) ((rdT (t:=aj) x17 x19:bE).1) x2:aA) (rdT (t:=ah) r8.1 x2:aA)).bind fun (v3:aA) =>
    (kL k v3).bind fun (v4:aA) =>
    (de k v2 (rdT (t:=aj) x17 x19:bE) v4 r8).bind fun (v5:bE) =>
    bc.j1 k m0 x1 x2 x17 x18 x19 r7 r8 (v5.1,v5.2.1,(((rdT (t:=aj) x17 x19:bE).2).2).1,v5.2.2.2) else none
   else
    bc.j1 k m0 x1 x2 x17 x18 x19 r7 r8 (rdT (t:=aj) x17 x19:bE) else none else none
 else
  some r7:=by
 kernel_rfl
theorem pX (k:Nat) (a0:aA) (a1:bE) (a2:aA) (a3:bE):de (k+1) a0 a1 a2 a3 =
 if 0≤(List.length a1.1:Int)∧(List.length a1.1:Int)≤(List.length a1.1:Int)∧56*(Int.toNat (List.length a1.1:Int))≤281474976710656∧(Int.toNat (List.length a1.1:Int))≤maxLen then de.l0 k k (List.length (List.replicate (Int.toNat (List.length a1.1:Int)) ((false,[],[],()):aA)):Int) (0:Int) a0 a1 a2 a3 ([],(0:Int),(0:Int),()) a1.2.1 (mx a1.2.2.1 a3.2.2.1) (List.replicate (Int.toNat (List.length a1.1:Int)) ((false,[],[],()):aA)) else none:=by
 kernel_rfl
theorem de.aO (k m0:Nat) (x25:Int) (x26:Int) (r4:aA) (r5:bE) (r6:aA) (r7:bE) (r8:bE) (q9_1:Int) (q9_2:Int) (r14:List aA):de.l0 k (m0+1) x25 x26 r4 r5 r6 r7 r8 q9_1 q9_2 r14 =
 bif decide (x26<x25) then
  if 0≤x26∧x26<(List.length r5.1:Int) then (gA k r4 (rdT (t:=ah) r5.1 x26:aA)).bind fun (v1:aA) =>
  if 0≤x26∧x26<(List.length r7.1:Int) then (gA k r6 (rdT (t:=ah) r7.1 x26:aA)).bind fun (v2:aA) =>
  (eF k v1 v2).bind fun (v3:aA) =>
  if 0≤x26∧x26<(List.length r14:Int) then de.l0 k m0 x25 (wrap64 (x26+(1:Int))) r4 r5 r6 r7 r8 q9_1 q9_2 (List.set r14 (Int.toNat x26) v3) else none else none else none
 else
  (fJ k (r14,q9_1,q9_2,())).bind fun (v4:bE) =>
  some v4:=by
 kernel_rfl
theorem nX (k:Nat) (a0:bE):bP (k+1) a0 =
 if 0≤a0.2.1∧a0.2.1≤(List.length a0.1:Int) then bP.l0 k k (List.take (Int.toNat a0.2.1) a0.1) (List.length (List.take (Int.toNat a0.2.1) a0.1):Int) (0:Int) else none:=by
 kernel_rfl
theorem bP.aO (k m0:Nat) (x9:List aA) (x10:Int) (x11:Int):bP.l0 k (m0+1) x9 x10 x11 =
 bif decide (x11<x10) then
  if 0≤x11∧x11<(List.length x9:Int) then (dD k (rdT (t:=ah) x9 x11:aA)).bind fun (v1:Int) =>
  bif v1 != (0:Int) then
   some false
  else
   bP.l0 k m0 x9 x10 (wrap64 (x11+(1:Int))) else none
 else
  some true:=by
 kernel_rfl
theorem j5 (k:Nat) (a0:bE):cU (k+1) a0 =
 (bP k a0).bind fun (v1:Bool) =>
 (bif v1 then (fi k ).bind fun (v2:aA) =>
 (cy k a0).bind fun (v3:aA) =>
 (dL k v2 a0.2.2.1 v3).bind fun (v4:Bool) =>
 some (!v4) else some false).bind fun (b5:Bool) =>
 some b5:=by
 kernel_rfl
theorem oR (k:Nat) (a0:bE) (a1:bE):cA (k+1) a0 a1 =
 (bif a0.2.2.1==(0:Int) then some true else some (a1.2.2.1==(0:Int))).bind fun (b1:Bool) =>
 bif b1 then
  some false
 else
  cA.l0 k k a0.2.1 (0:Int) a0 a1:=by
 kernel_rfl
theorem cA.aO (k m0:Nat) (x15:Int) (x16:Int) (r2:bE) (r3:bE):cA.l0 k (m0+1) x15 x16 r2 r3 =
 bif decide (x16<x15) then
  if 0≤x16∧x16<(List.length r2.1:Int) then if 0≤x16∧x16<(List.length r3.1:Int) then (jJ k (rdT (t:=ah) r2.1 x16:aA) (rdT (t:=ah) r3.1 x16:aA)).bind fun (v2:Bool) =>
  bif !v2 then
   some false
  else
   cA.l0 k m0 x15 (wrap64 (x16+(1:Int))) r2 r3 else none else none
 else
  some true:=by
 kernel_rfl
theorem BX (k:Nat):kK (k+1) =
 (sR k (1:Int)).bind fun (v1:aA) =>
 some v1:=by
 kernel_rfl
theorem ma (k:Nat) (a0:bE):fJ (k+1) a0 =
 (bL k a0.1 (wrap64 (a0.2.1+(1:Int)))).bind fun (v1:List aA) =>
 some (v1,a0.2):=by
 kernel_rfl
theorem nU (k:Nat) (a0:Int):dE (k+1) a0=P.dE.f k a0:=by
 kernel_rfl
theorem BW (k:Nat) (a0:aA) (a1:aA):lZ (k+1) a0 a1 =
 (kL k a1).bind fun (v1:aA) =>
 (eF k a0 v1).bind fun (v2:aA) =>
 some v2:=by
 kernel_rfl
theorem B6 (k:Nat) (a0:aA) (a1:aA):nS (k+1) a0 a1 =
 (sO k a1).bind fun (v1:aA) =>
 (gA k a0 v1).bind fun (v2:aA) =>
 some v2:=by
 kernel_rfl
theorem cT (k:Nat) (a0:cZ) (a1:aA) (a2:Int) (a3:Bool):aX (k+1) a0 a1 a2 a3 =
 bif decide (a2>(0:Int)) then
  bif a0.2.2.2.1 then
   (jh k a1 a0.2.1).bind fun (v1:Int) =>
   aX.j0 k a3 v1 a0 a1
  else
   aX.j0 k a3 (-1:Int) a0 a1
 else
  bif a0.2.2.1 then
   (jh k a1 a0.1).bind fun (v2:Int) =>
   aX.j1 k a3 v2 a0 a1
  else
   aX.j1 k a3 (1:Int) a0 a1:=by
 kernel_rfl
theorem gL (k:Nat) (a0:List Int) (a1:Int):iW (k+1) a0 a1 =
 (bif decide ((List.length a0:Int)≤a1) then (bif (List.length a0:Int)==(0:Int) then some true else if 0≤(wrap64 ((List.length a0:Int)-(1:Int)))∧(wrap64 ((List.length a0:Int)-(1:Int)))<(List.length a0:Int) then some ((rdT (t:=(.int .u32)) a0 (wrap64 ((List.length a0:Int)-(1:Int))):Int) != (0:Int)) else none).bind fun (b1:Bool) =>
 some b1 else some false).bind fun (b2:Bool) =>
 some b2:=by
 kernel_rfl
theorem Ci (k:Nat) (a0:List Int) (a1:List Int):cq (k+1) a0 a1=P.cq.f k a0 a1:=by
 kernel_rfl
theorem qN (k:Nat) (a0:List aA):bH (k+1) a0 =
 bif (List.length a0:Int)==(0:Int) then
  some []
 else
  bH.l0 k k a0 ([(1:Int)]) [] a0 (List.length a0:Int) (0:Int):=by
 kernel_rfl
theorem bH.aO (k m0:Nat) (x0:List aA) (x3:List Int) (x4:List Int) (x17:List aA) (x18:Int) (x19:Int):bH.l0 k (m0+1) x0 x3 x4 x17 x18 x19 =
 bif decide (x19<x18) then
  if 0≤x19∧x19<(List.length x17:Int) then (cq k x3 ((((rdT (t:=ah) x17 x19:aA).2).2).1)).bind fun (v1:List Int) =>
  (aI k ((((rdT (t:=ah) x17 x19:aA).2).2).1) v1).bind fun (v2:List Int×List Int×Unit) =>
  (bC k x3 v2.1).bind fun (v3:List Int) =>
  bH.l0 k m0 x0 v3 x4 x17 x18 (wrap64 (x19+(1:Int))) else none
 else
  bH.l1 k k x0 x3 x4 x0 (List.length x0:Int) (0:Int):=by
 kernel_rfl
theorem bH.bZ (k m0:Nat) (x0:List aA) (x3:List Int) (x4:List Int) (x37:List aA) (x38:Int) (x39:Int):bH.l1 k (m0+1) x0 x3 x4 x37 x38 x39 =
 bif decide (x39<x38) then
  if 0≤x39∧x39<(List.length x37:Int) then (aI k x3 ((((rdT (t:=ah) x37 x39:aA).2).2).1)).bind fun (v4:List Int×List Int×Unit) =>
  (bC k (((rdT (t:=ah) x37 x39:aA).2).1) v4.1).bind fun (v5:List Int) =>
  (cq k x4 v5).bind fun (v6:List Int) =>
  bH.l1 k m0 x0 x3 v6 x37 x38 (wrap64 (x39+(1:Int))) else none
 else
  (dk k false x3 x4).bind fun (v7:aA) =>
  (dX k x0 v7).bind fun (v8:List aA) =>
  some v8:=by
 kernel_rfl
theorem uv (k:Nat) (a0:aA) (a1:aA):yQ (k+1) a0 a1 =
 (jh k a0 a1).bind fun (v1:Int) =>
 bif decide (v1≤(0:Int)) then
  some a0
 else
  some a1:=by
 kernel_rfl
theorem l6 (k:Nat) (a0:aA):fV (k+1) a0 =
 (aI k a0.2.1 a0.2.2.1).bind fun (v1:List Int×List Int×Unit) =>
 (bif a0.1 then some (decide ((List.length v1.2.1:Int)>(0:Int))) else some false).bind fun (b2:Bool) =>
 bif b2 then
  (dg k v1.1 ([(1:Int)])).bind fun (v3:List Int) =>
  fV.j0 k v3 a0 (false,[],[],())
 else
  fV.j0 k v1.1 a0 (false,[],[],()):=by
 kernel_rfl
theorem uw (k:Nat) (a0:aA) (a1:aA):yR (k+1) a0 a1 =
 (jh k a0 a1).bind fun (v1:Int) =>
 bif decide (v1≥(0:Int)) then
  some a0
 else
  some a1:=by
 kernel_rfl
theorem xp (k:Nat) (a0:aA) (a1:aA):jJ (k+1) a0 a1 =
 (bif a0.1==a1.1 then (cX k a0.2.1 a1.2.1).bind fun (v1:Int) =>
 some (v1==(0:Int)) else some false).bind fun (b2:Bool) =>
 (bif b2 then (cX k a0.2.2.1 a1.2.2.1).bind fun (v3:Int) =>
 some (v3==(0:Int)) else some false).bind fun (b4:Bool) =>
 some b4:=by
 kernel_rfl
theorem yS (k:Nat) (a0:Int) (a1:Int):vF (k+1) a0 a1 =
 (sR k a0).bind fun (v1:aA) =>
 (sR k a1).bind fun (v2:aA) =>
 (nS k v1 v2).bind fun (v3:aA) =>
 some v3:=by
 kernel_rfl
theorem jy (k:Nat) (a0:aA) (a1:aA):cH (k+1) a0 a1 =
 (lV k a0).bind fun (v1:Bool) =>
 (bif !v1 then some true else (lV k a1).bind fun (v2:Bool) =>
 some (!v2)).bind fun (b3:Bool) =>
 bif b3 then
  some ((false,[],[],()),(3:Int),())
 else
  (jh k a0 a1).bind fun (v4:Int) =>
  bif decide (v4>(0:Int)) then
   some ((false,[],[],()),(1:Int),())
  else
   (dD k a0).bind fun (v5:Int) =>
   (bif decide (v5≤(0:Int)) then (dD k a1).bind fun (v6:Int) =>
   some (decide (v6≥(0:Int))) else some false).bind fun (b7:Bool) =>
   bif b7 then
    (fi k ).bind fun (v8:aA) =>
    some (v8,(0:Int),())
   else
    (dD k a1).bind fun (v9:Int) =>
    bif decide (v9<(0:Int)) then
     (kL k a1).bind fun (v10:aA) =>
     (kL k a0).bind fun (v11:aA) =>
     (cH k v10 v11).bind fun (v12:aA×Int×Unit) =>
     bif v12.2.1 != (0:Int) then
      some ((false,[],[],()),v12.2.1,())
     else
      (kL k v12.1).bind fun (v13:aA) =>
      some (v13,(0:Int),())
    else
     (kK k ).bind fun (v14:aA) =>
     (fi k ).bind fun (v15:aA) =>
     (fi k ).bind fun (v16:aA) =>
     (kK k ).bind fun (v17:aA) =>
     cH.l0 k k a0 a1 (false,[],[],()) (v14,v15,v16,v17,()):=by
 kernel_rfl
theorem cH.aO (k m0:Nat) (r2:aA) (r3:aA) (r4:aA) (r8:fA):cH.l0 k (m0+1) r2 r3 r4 r8 =
 (fV k r2).bind fun (v18:aA) =>
 (jJ k v18 r2).bind fun (v19:Bool) =>
 bif v19 then
  (eC k r8 v18).bind fun (v20:Unit×fA) =>
  cH.j0 k r4 v20.2
 else
  (kK k ).bind fun (v21:aA) =>
  (eF k v18 v21).bind fun (v22:aA) =>
  (jh k v22 r3).bind fun (v23:Int) =>
  bif decide (v23≤(0:Int)) then
   (eC k r8 v22).bind fun (v24:Unit×fA) =>
   cH.j0 k r4 v24.2
  else
   (eC k r8 v18).bind fun (v25:Unit×fA) =>
   (lZ k r3 v18).bind fun (v26:aA) =>
   (sO k v26).bind fun (v27:aA) =>
   (lZ k r2 v18).bind fun (v28:aA) =>
   (sO k v28).bind fun (v29:aA) =>
   cH.l0 k m0 v27 v29 r4 v25.2:=by
 kernel_rfl
theorem vK (k:Nat) (a0:List Int) (a1:List Int):aI (k+1) a0 a1=(P.aI.f k a0 a1).map fun r=>(r.1,r.2,()):=by
 kernel_rfl
theorem kt (k:Nat) (a0:List Int) (a1:List Int):aE (k+1) a0 a1=(P.aE.f k a0 a1).map fun r=>(r.1,r.2,()):=by
 kernel_rfl
theorem B5 (k:Nat) (a0:aA):sO (k+1) a0 =
 if List.length a0.2.2.1*4≤140737488355328 then if List.length a0.2.1*4≤140737488355328 then some (a0.1,a0.2.2.1,a0.2.1,()) else none else none:=by
 kernel_rfl
theorem wy (k:Nat) (a0:List aA) (a1:aA):dX (k+1) a0 a1 =
 if 0≤(List.length a0:Int)∧(List.length a0:Int)≤(List.length a0:Int)∧56*(Int.toNat (List.length a0:Int))≤281474976710656∧(Int.toNat (List.length a0:Int))≤maxLen then dX.l0 k k a0 (List.length a0:Int) (0:Int) a1 (List.replicate (Int.toNat (List.length a0:Int)) ((false,[],[],()):aA)) else none:=by
 kernel_rfl
theorem dX.aO (k m0:Nat) (x11:List aA) (x12:Int) (x13:Int) (r3:aA) (r10:List aA):dX.l0 k (m0+1) x11 x12 x13 r3 r10 =
 bif decide (x13<x12) then
  if 0≤x13∧x13<(List.length x11:Int) then (gA k r3 (rdT (t:=ah) x11 x13:aA)).bind fun (v1:aA) =>
  if 0≤x13∧x13<(List.length r10:Int) then dX.l0 k m0 x11 x12 (wrap64 (x13+(1:Int))) r3 (List.set r10 (Int.toNat x13) v1) else none else none
 else
  (eT k r10).bind fun (v2:List aA) =>
  some v2:=by
 kernel_rfl
theorem xc (k:Nat) (a0:aA):lV (k+1) a0 =
 (dJ k a0 (4096:Int)).bind fun (v1:Bool) =>
 some v1:=by
 kernel_rfl
theorem lD (k:Nat) (a0:fA) (a1:aA):eC (k+1) a0 a1 =
 (gA k a1 a0.1).bind fun (v1:aA) =>
 (eF k v1 a0.2.2.1).bind fun (v2:aA) =>
 (gA k a1 a0.2.1).bind fun (v3:aA) =>
 (eF k v3 a0.2.2.2.1).bind fun (v4:aA) =>
 some ((),v2,v4,a0.1,a0.2.1,a0.2.2.2.2):=by
 kernel_rfl
theorem tL (k:Nat) (a0:aA):nO (k+1) a0 =
 (vG k a0 (4096:Int)).bind fun (v1:Bool) =>
 bif !v1 then
  some ((false,[],[],()),(2:Int),())
 else
  some (a0,(0:Int),()):=by
 kernel_rfl
theorem yk (k:Nat) (a0:List aA):eT (k+1) a0 =
 eT.l0 k k a0:=by
 kernel_rfl
theorem eT.aO (k m0:Nat) (x0:List aA):eT.l0 k (m0+1) x0 =
 (bif decide ((List.length x0:Int)>(0:Int)) then if 0≤(wrap64 ((List.length x0:Int)-(1:Int)))∧(wrap64 ((List.length x0:Int)-(1:Int)))<(List.length x0:Int) then (dD k (rdT (t:=ah) x0 (wrap64 ((List.length x0:Int)-(1:Int))):aA)).bind fun (v1:Int) =>
 some (v1==(0:Int)) else none else some false).bind fun (b2:Bool) =>
 bif b2 then
  if 0≤(wrap64 ((List.length x0:Int)-(1:Int)))∧(wrap64 ((List.length x0:Int)-(1:Int)))≤(List.length x0:Int) then eT.l0 k m0 (List.take (Int.toNat (wrap64 ((List.length x0:Int)-(1:Int)))) x0) else none
 else
  some x0:=by
 kernel_rfl
theorem yU (k:Nat) (a0:aA) (a1:Int):vG (k+1) a0 a1 =
 (bif decide ((List.length a0.2.1:Int)≤a1) then some (decide ((List.length a0.2.2.1:Int)≤a1)) else some false).bind fun (b1:Bool) =>
 some b1:=by
 kernel_rfl
end Go.Proofs.YtjimdhlmeebjeaaGreat.Q
end
section
namespace Go.Proofs.YtjimdhlmeebjeaaGreat.P
open Go.RowKit Go.Proofs.YtjimdhlmeebjeaaGreatW.PrintWords Go.Proofs.YtjimdhlmeebjeaaGreatW.PrintLast Go.Proofs.YtjimdhlmeebjeaaGreatW.PrintMore
set_option linter.unusedVariables false
theorem evp {α:Type} {c:Prop} [Decidable c] {f g:Nat→Option α} {r:α} (hc:c) (h:Ev f r):Ev (fun k=>if c then f k else g k) r:=by simpa only [if_pos hc] using h
theorem evn {α:Type} {c:Prop} [Decidable c] {f g:Nat→Option α} {r:α} (hc:¬ c) (h:Ev g r):Ev (fun k=>if c then f k else g k) r:=by simpa only [if_neg hc] using h
theorem evb {α β:Type} {o:Option α} {f:Nat→α→Option β} {a:α} {r:β} (h:o=some a) (k:Ev (fun n=>f n a) r):Ev (fun n=>o.bind (f n)) r:=by subst h;exact k
theorem evs {α:Type} (r:α):Ev (fun _=>some r) r:=⟨0,fun _ _=>rfl⟩
theorem evk {α:Type} {o:Option α} {r:α} (h:o=some r):Ev (fun _=>o) r:=⟨0,fun _ _=>h⟩
theorem w64 {x:Int} (h0:-9223372036854775808≤x) (h1:x≤9223372036854775807):wrap64 x=x:=by unfold wrap64;omega
theorem u64 {x:Int} (h0:0≤x) (h1:x<18446744073709551616):IntKind.u64.wrap x=x:=by rw [IntKind.wrap_u64];omega
def vl (B:Int):List Int→Int
 | []=>0
 | x :: t=>x+B*vl B t
def Dg (B:Int) (l:List Int):Prop:=∀ x∈l,0≤x∧x<B
def Nm (l:List Int):Prop:=∀ h:l≠[],l.getLast h≠0
def Can (B:Int) (l:List Int) (n:Int):Prop:=Dg B l∧Nm l∧vl B l=n
section
variable {B:Int} {l a b:List Int}
theorem iS (B:Int) (a b:List Int):vl B (a++b)=vl B a+B ^ a.length*vl B b:=by
 induction a with
 | nil=>simp [vl]
 | cons x t ih =>
  simp only [List.cons_append,vl,ih,List.length_cons]
  grind
theorem pG (l:List Int) (i:Nat) (h:i<l.length):rd l (i:Int)=l[i]:=by simp [rd,h]
theorem dF (B:Int) (l:List Int) (i:Nat) (h:i<l.length):vl B (l.take (i+1))=vl B (l.take i)+rd l (i:Int)*B ^ i:=by
 rw [List.take_succ_eq_append_getElem h,iS,pG l i h,List.length_take,Nat.min_eq_left (by omega)]
 simp only [vl]
 grind
theorem take_set (l:List Int) (i:Nat) (v:Int) (h:i<l.length):(l.set i v).take (i+1)=l.take i++[v]:=by
 rw [List.take_succ_eq_append_getElem (by simpa using h),List.take_set_of_le (by omega)]
 simp
theorem iQ (B:Int) (l:List Int) (i:Nat) (v:Int) (h:i<l.length):vl B ((l.set i v).take (i+1))=vl B (l.take i)+v*B ^ i:=by
 rw [take_set l i v h,iS,List.length_take,Nat.min_eq_left (by omega)]
 simp only [vl]
 grind
theorem Dg.nil (B:Int):Dg B []:=fun x hx=>by cases hx
theorem Dg.cons {x:Int} (h:Dg B (x :: l)):(0≤x∧x<B)∧Dg B l:=⟨h x (by simp),fun y hy=>h y (by simp [hy])⟩
theorem Dg.mk {x:Int} (h0:0≤x) (h1:x<B) (h:Dg B l):Dg B (x :: l):=by
 intro y hy
 rcases List.mem_cons.1 hy with rfl | hy
 ·exact ⟨h0,h1⟩
 ·exact h y hy
theorem Dg.append (ha:Dg B a) (hb:Dg B b):Dg B (a++b):=by
 intro y hy
 rcases List.mem_append.1 hy with hy | hy
 ·exact ha y hy
 ·exact hb y hy
theorem Dg.take (h:Dg B l) (i:Nat):Dg B (l.take i):=fun x hx=>h x (List.mem_of_mem_take hx)
theorem Dg.drop (h:Dg B l) (i:Nat):Dg B (l.drop i):=fun x hx=>h x (List.mem_of_mem_drop hx)
theorem Dg.set (h:Dg B l) (i:Nat) {v:Int} (h0:0≤v) (h1:v<B):Dg B (l.set i v):=by
 intro x hx
 rcases List.mem_or_eq_of_mem_set hx with hx | rfl
 ·exact h x hx
 ·exact ⟨h0,h1⟩
theorem Dg.rep (hB:0<B) (n:Nat):Dg B (List.replicate n 0):=by
 intro x hx
 have:=(List.mem_replicate.1 hx).2
 omega
theorem Dg.take_set {i:Nat} {v:Int} (hi:i<l.length) (h':Dg B (l.take i)) (h0:0≤v) (h1:v<B):Dg B ((l.set i v).take (i+1)):=by
 rw [P.take_set l i v hi]
 exact h'.append (Dg.mk h0 h1 (Dg.nil B))
theorem dZ (h:Dg B l) (i:Int) (h0:0≤i) (h1:i<l.length):0≤rd l i∧rd l i<B:=by
 obtain ⟨n,rfl⟩:=Int.eq_ofNat_of_zero_le h0
 rw [pG l n (by omega)]
 exact h _ (List.getElem_mem _)
theorem jl (hB:0<B) (n:Nat):0<B ^ n:=Int.pow_pos hB
theorem bV (hB:0<B):∀ {l:List Int},Dg B l→0≤vl B l
 | [],_=>by simp [vl]
 | x :: t,h=>by
  have h1:=h.cons
  have h2:=bV hB h1.2
  have h3:0≤B*vl B t:=Int.mul_nonneg (by omega) h2
  simp only [vl]
  omega
theorem iR (hB:0<B):∀ {l:List Int},Dg B l→vl B l<B ^ l.length
 | [],_=>by simp [vl]
 | x :: t,h=>by
  have h1:=h.cons
  have h2:=iR hB h1.2
  have h3:B*(vl B t+1)≤B*B ^ t.length:=Int.mul_le_mul_of_nonneg_left (by omega) (by omega)
  simp only [vl,List.length_cons]
  rw [Int.mul_add] at h3
  have h4:B ^ (t.length+1)=B*B ^ t.length:=by grind
  omega
theorem Nm.nil:Nm []:=fun h=>absurd rfl h
theorem Nm.tail {x:Int} (h:Nm (x :: l)):Nm l:=by
 intro hl
 have:=h (by simp)
 rwa [List.getLast_cons hl] at this
theorem zG (hB:0<B):∀ {l:List Int},Dg B l→Nm l→l≠[]→0<vl B l
 | [],_,_,h=>absurd rfl h
 | [x],hd,hn,_=>by
  have h1:=hd.cons
  have h2:=hn (by simp)
  simp at h2
  simp [vl]
  omega
 | x :: y :: t,hd,hn,_=>by
  have h1:=hd.cons
  have h2:=zG hB h1.2 hn.tail (by simp)
  have h3:0<B*vl B (y :: t):=Int.mul_pos hB h2
  rw [vl]
  omega
theorem vl_ge (hB:0<B):∀ {l:List Int},Dg B l→Nm l→l≠[]→B ^ (l.length-1)≤vl B l
 | [],_,_,h=>absurd rfl h
 | [x],hd,hn,_=>by
  have h1:=zG hB hd hn (by simp)
  simp
  omega
 | x :: y :: t,hd,hn,_=>by
  have h1:=hd.cons
  have h2:=vl_ge hB h1.2 hn.tail (by simp)
  have h3:B*B ^ ((y :: t).length-1)≤B*vl B (y :: t):=Int.mul_le_mul_of_nonneg_left h2 (by omega)
  rw [vl]
  have h4:B ^ ((x :: y :: t).length-1)=B*B ^ ((y :: t).length-1):=by
   simp only [List.length_cons,Nat.add_sub_cancel]
   grind
  omega
theorem bS (hB:0<B):∀ {a b:List Int} {n:Int},Can B a n→Can B b n→a=b
 | [],[],_,_,_=>rfl
 | [],y :: t,n,h,h'=>by
  have h1:=zG hB h'.1 h'.2.1 (by simp)
  have h2:=h.2.2
  have h3:=h'.2.2
  simp only [vl] at h2
  omega
 | x :: t,[],n,h,h'=>by
  have h1:=zG hB h.1 h.2.1 (by simp)
  have h2:=h.2.2
  have h3:=h'.2.2
  simp only [vl] at h3
  omega
 | x :: s,y :: t,n,h,h'=>by
  have h1:=h.1.cons
  have h2:=h'.1.cons
  have h3:=h.2.2
  have h4:=h'.2.2
  simp only [vl] at h3 h4
  have e1:x=n % B:=by rw [← h3,Int.add_mul_emod_self_left,Int.emod_eq_of_lt h1.1.1 h1.1.2]
  have e2:y=n % B:=by rw [← h4,Int.add_mul_emod_self_left,Int.emod_eq_of_lt h2.1.1 h2.1.2]
  have e3:x=y:=by omega
  subst e3
  have e4:vl B s=vl B t:=Int.eq_of_mul_eq_mul_left (a:=B) (by omega) (by omega)
  rw [bS hB (n:=vl B t) ⟨h1.2,h.2.1.tail,e4⟩ ⟨h2.2,h'.2.1.tail,rfl⟩]
theorem Can.gu (hB:0<B) {n:Int} (h:Can B l n):0≤n:=by rw [← h.2.2];exact bV hB h.1
theorem Can.zero (B:Int):Can B [] 0:=⟨Dg.nil B,Nm.nil,rfl⟩
theorem Can.yW (hB:0<B) {n:Int} (h:Can B l n):l=[]↔n=0:=by
 constructor
 ·rintro rfl
  exact h.2.2.symm
 ·rintro rfl
  exact bS hB h (Can.zero B)
theorem Can.ji (hB:0<B) {n:Int} (h:Can B l n):l.length=0↔n=0:=by rw [← h.yW hB];exact List.length_eq_zero_iff
theorem Can.lt (hB:0<B) {n:Int} (h:Can B l n):n<B ^ l.length:=by rw [← h.2.2];exact iR hB h.1
theorem Can.ge (hB:0<B) {n:Int} (h:Can B l n) (h0:l.length≠0):B ^ (l.length-1)≤n:=by
 rw [← h.2.2]
 exact vl_ge hB h.1 h.2.1 (fun e=>h0 (by rw [e];rfl))
theorem eY {B:Int} (hB:1≤B) {i j:Nat} (h:i≤j):B ^ i≤B ^ j:=by
 obtain ⟨d,rfl⟩:=Nat.exists_eq_add_of_le h
 rw [Int.pow_add]
 have h1:1≤B ^ d:=Int.pow_pos (by omega)
 have h2:B ^ i*1≤B ^ i*B ^ d:=Int.mul_le_mul_of_nonneg_left h1 (Int.le_of_lt (Int.pow_pos (by omega)))
 omega
theorem Can.uH (hB:1<B) {n m:Int} (h:Can B a n) (h':Can B b m) (hl:a.length<b.length):n<m:=by
 have h1:=h.lt (by omega)
 have h2:=h'.ge (by omega) (by omega)
 have h3:=eY (B:=B) (by omega) (show a.length≤b.length-1 by omega)
 omega
theorem Can.fm (hB:1<B) {n:Int} (h:Can B l n) {k:Nat} (hn:n<B ^ k):l.length≤k:=by
 rcases Nat.lt_or_ge k l.length with hk | hk
 ·have h1:=h.ge (by omega) (by omega)
  have h2:=eY (B:=B) (by omega) (show k≤l.length-1 by omega)
  omega
 ·exact hk
theorem Can.len_ge (hB:1<B) {n:Int} (h:Can B l n) {k:Nat} (hn:B ^ k≤n):k<l.length:=by
 rcases Nat.lt_or_ge k l.length with hk | hk
 ·exact hk
 ·have h1:=h.lt (by omega)
  have h2:=eY (B:=B) (by omega) hk
  omega
theorem iD (B:Int) (l:List Int) (i:Nat) (h:i≤l.length):vl B l=vl B (l.take i)+B ^ i*vl B (l.drop i):=by
 conv=>lhs;rw [← List.take_append_drop i l]
 rw [iS,List.length_take,Nat.min_eq_left h]
theorem Dl (l:List Int) (i j:Int) (v:Int) (h:i.toNat≠j.toNat):rd (l.set i.toNat v) j=rd l j:=by
 simp only [rd,List.getD_eq_getElem?_getD]
 rw [List.getElem?_set_ne h]
theorem w9 (l:List Int) (i:Int) (v:Int) (h:i.toNat<l.length):rd (l.set i.toNat v) i=v:=by
 simp only [rd,List.getD_eq_getElem?_getD]
 rw [List.getElem?_set_self h]
 rfl
theorem rd_take (l:List Int) (j:Int) (i:Nat) (h:j.toNat<i):rd (l.take i) j=rd l j:=by
 simp only [rd,List.getD_eq_getElem?_getD]
 rw [List.getElem?_take_of_lt h]
theorem uN (l:List Int) (h:l≠[]):l.getLast h=rd l ((l.length:Int)-1):=by
 have hp:0<l.length:=List.length_pos_iff.2 h
 rw [List.getLast_eq_getElem]
 have e:(l.length:Int)-1=((l.length-1:Nat):Int):=by omega
 rw [e,pG _ _ (by omega)]
theorem mU (h:0<l.length→rd l ((l.length:Int)-1)≠0):Nm l:=by
 intro hl
 rw [uN l hl]
 exact h (List.length_pos_iff.2 hl)
theorem Nm.rd (h:Nm l) (hp:0<l.length):rd l ((l.length:Int)-1)≠0:=by
 have hl:l≠[]:=List.ne_nil_of_length_pos hp
 rw [← uN l hl]
 exact h hl
theorem zF (B:Int) (n:Nat):vl B (List.replicate n 0)=0:=by
 induction n with
 | zero=>rfl
 | succ n ih=>simp [List.replicate_succ,vl,ih]
theorem Cv (hB:1<B) (n:Nat):∃ l,Can B l (n:Int):=by
 induction n using Nat.strongRecOn with
 | _ n ih =>
  by_cases h0:n=0
  ·subst h0
   exact ⟨[],Can.zero B⟩
  ·have hlt:((n:Int) / B).toNat<n:=by
    have h1:(n:Int) / B<n:=Int.ediv_lt_self_of_pos_of_ne_one (by omega) (by omega)
    have h2:0≤(n:Int) / B:=Int.ediv_nonneg (by omega) (by omega)
    omega
   obtain ⟨l,h1,h2,h3⟩:=ih _ hlt
   have h4:0≤(n:Int) / B:=Int.ediv_nonneg (by omega) (by omega)
   have hm:=Int.emod_nonneg (n:Int) (show B≠0 by omega)
   have hm2:=Int.emod_lt_of_pos (n:Int) (show 0<B by omega)
   have h5:vl B ((n:Int) % B :: l)=n:=by
    rw [vl,h3,Int.toNat_of_nonneg h4]
    exact Int.emod_add_mul_ediv _ _
   refine ⟨(n:Int) % B :: l,Dg.mk hm hm2 h1,?_,h5⟩
   intro hne
   rcases List.eq_nil_or_concat l with hl | ⟨_,_,hl⟩
   ·subst hl
    simp only [vl,Int.mul_zero,Int.add_zero] at h5
    simp only [List.getLast_singleton]
    omega
   ·have hne':l≠[]:=by rw [hl];simp
    rw [List.getLast_cons hne']
    exact h2 hne'
theorem can_ex (hB:1<B) {n:Int} (h:0≤n):∃ l,Can B l n:=by
 obtain ⟨k,rfl⟩:=Int.eq_ofNat_of_zero_le h
 exact Cv hB k
end
end Go.Proofs.YtjimdhlmeebjeaaGreat.P
end
section
namespace Go.Proofs.YtjimdhlmeebjeaaGreat.P
open Go.RowKit Go.Proofs.YtjimdhlmeebjeaaGreatW.PrintWords Go.Proofs.YtjimdhlmeebjeaaGreatW.PrintLast Go.Proofs.YtjimdhlmeebjeaaGreatW.PrintMore
set_option linter.unusedVariables false
abbrev WW:Int:=4294967296
theorem aM:(0:Int)<WW:=by decide
theorem aY:(1:Int)<WW:=by decide
theorem dx:WW=4294967296:=rfl
theorem alg_add {vo va vb P c c' v x y W:Int} (h:vo+c*P=va+vb) (h2:v+W*c'=c+x+y):vo+v*P+c'*(W*P)=(va+x*P)+(vb+y*P):=by grind
theorem alg_add1 {vo va vb P c c' v x W:Int} (h:vo+c*P=va+vb) (h2:v+W*c'=c+x):vo+v*P+c'*(W*P)=(va+x*P)+vb:=by grind
theorem alg_last {vo c P n W:Int} (h:vo+c*P=n):vo+P*(c+W*0)=n:=by grind
theorem iC {i:Nat} (h:i<4611686018427387904):wrap64 ((i:Int)+1)=((i+1:Nat):Int):=by rw [w64 (by omega) (by omega)];omega
theorem y8 (n:Nat):∀ (l:List Int),l.length=n→n<4611686018427387904→Dg WW l→∃ r,Ev (fun k=>cJ.l0 k l) r∧Can WW r (vl WW l)∧r.length≤l.length:=by
 induction n with
 | zero =>
  intro l hl _ hd
  have e:l=[]:=List.eq_nil_of_length_eq_zero hl
  subst e
  refine ⟨[],?_,Can.zero _,Nat.le_refl _⟩
  refine Ev.step (fun k=>by rw [cJ.l0]) ?_
  exact evn (by simp) (evs _)
 | succ n ih =>
  intro l hl hn hd
  have ew:wrap64 ((l.length:Int)-1)=(n:Int):=by rw [w64 (by omega) (by omega)];omega
  by_cases hz:rd l n=0
  ·obtain ⟨r,h1,h2,h3⟩:=ih (l.take n) (by rw [List.length_take];omega) (by omega) (hd.take n)
   refine ⟨r,?_,?_,?_⟩
   ·refine Ev.step (fun k=>by rw [cJ.l0]) ?_
    rw [ew]
    refine evp (by omega) (evp (by omega) (evp (by omega) (evp hz (evp (by omega) ?_))))
    simpa using h1
   ·have h4:=dF WW l n (by omega)
    rw [hz,show n+1=l.length by omega,List.take_length] at h4
    rw [h4]
    simpa using h2
   ·rw [List.length_take] at h3
    omega
  ·refine ⟨l,?_,⟨hd,mU (fun _=>?_),rfl⟩,Nat.le_refl _⟩
   ·refine Ev.step (fun k=>by rw [cJ.l0]) ?_
    rw [ew]
    exact evp (by omega) (evp (by omega) (evp (by omega) (evn hz (evs _))))
   ·rw [hl]
    have e:(((n+1:Nat):Int)-1)=(n:Int):=by omega
    rw [e]
    exact hz
theorem fx {l:List Int} (hn:l.length<4611686018427387904) (hd:Dg WW l):∃ r,Ev (fun k=>cJ.f k l) r∧Can WW r (vl WW l)∧r.length≤l.length:=by
 obtain ⟨r,h1,h2⟩:=y8 l.length l rfl hn hd
 exact ⟨r,Ev.congr (fun k=>by rw [cJ.f]) h1,h2⟩
theorem fy {a:Int} (h0:0≤a) (h1:a<18446744073709551616):∃ r,Ev (fun k=>dE.f k a) r∧Can WW r a:=by
 have hW:=dx
 have hd:Dg WW [a % 4294967296,(a / 4294967296) % 4294967296]:=Dg.mk (by omega) (by omega) (Dg.mk (by omega) (by omega) (Dg.nil _))
 obtain ⟨r,h2,h3,_⟩:=fx (by simp) hd
 refine ⟨r,?_,?_⟩
 ·unfold dE.f
  exact Ev.bind h2 (evs _)
 ·have e:vl WW [a % 4294967296,(a / 4294967296) % 4294967296]=a:=by
   simp only [vl,Int.mul_zero,Int.add_zero,dx]
   omega
  rw [← e]
  exact h3
theorem Cj {a b:List Int} (hl:a.length=b.length) (hn:a.length<4611686018427387904) (ha:Dg WW a) (hb:Dg WW b) (d:Nat) :
 ∀ (i:Nat),i=d→i≤a.length→vl WW (a.drop i)=vl WW (b.drop i)→∃ r,Ev (fun k=>cX.l0 k a b ((i:Int)-1)) r∧(r = -1∧vl WW a<vl WW b∨r=0∧vl WW a=vl WW b∨r=1∧vl WW b<vl WW a):=by
 induction d with
 | zero =>
  rintro i rfl h1 h2
  refine ⟨0,?_,.inr (.inl ⟨rfl,by simpa using h2⟩)⟩
  refine Ev.step (fun k=>by rw [cX.l0]) ?_
  exact evn (by omega) (evs _)
 | succ d ih =>
  rintro i rfl h1 h2
  have e1:(((d+1:Nat):Int)-1)=(d:Int):=by omega
  rw [e1]
  have h3:=iD WW a d (by omega)
  have h4:=iD WW b d (by omega)
  have ea:a.drop d=rd a d :: a.drop (d+1):=by rw [pG a d (by omega)];exact (List.drop_eq_getElem_cons (by omega))
  have eb:b.drop d=rd b d :: b.drop (d+1):=by rw [pG b d (by omega)];exact (List.drop_eq_getElem_cons (by omega))
  have ta:=iR aM (ha.take d)
  have tb:=iR aM (hb.take d)
  have ta0:=bV aM (ha.take d)
  have tb0:=bV aM (hb.take d)
  rw [List.length_take,Nat.min_eq_left (by omega)] at ta tb
  by_cases he:rd a d=rd b d
  ·obtain ⟨r,h5,h6⟩:=ih d rfl (by omega) (by rw [ea,eb,vl,vl,he,h2])
   refine ⟨r,?_,h6⟩
   refine Ev.step (fun k=>by rw [cX.l0]) ?_
   rw [w64 (by omega) (by omega)]
   exact evp (by omega) (evp (by omega) (evp (by omega) (evp (by omega) (evp he h5))))
  ·have h7:vl WW (a.drop d)=rd a d+WW*vl WW (a.drop (d+1)):=by rw [ea,vl]
   have h8:vl WW (b.drop d)=rd b d+WW*vl WW (b.drop (d+1)):=by rw [eb,vl]
   have hp:0<WW ^ d:=Int.pow_pos aM
   by_cases hlt:rd a d<rd b d
   ·refine ⟨-1,?_,.inl ⟨rfl,?_⟩⟩
    ·refine Ev.step (fun k=>by rw [cX.l0]) ?_
     exact evp (by omega) (evp (by omega) (evp (by omega) (evp (by omega) (evn he (evp hlt (evs _))))))
    ·have h9:WW ^ d*(vl WW (a.drop d)+1)≤WW ^ d*vl WW (b.drop d):=Int.mul_le_mul_of_nonneg_left (by rw [h7,h8,h2];omega) (by omega)
     rw [Int.mul_add] at h9
     omega
   ·refine ⟨1,?_,.inr (.inr ⟨rfl,?_⟩)⟩
    ·refine Ev.step (fun k=>by rw [cX.l0]) ?_
     exact evp (by omega) (evp (by omega) (evp (by omega) (evp (by omega) (evn he (evn hlt (evs _))))))
    ·have h9:WW ^ d*(vl WW (b.drop d)+1)≤WW ^ d*vl WW (a.drop d):=Int.mul_le_mul_of_nonneg_left (by rw [h7,h8,h2];omega) (by omega)
     rw [Int.mul_add] at h9
     omega
def fv (n m:Int):Int:=if n<m then -1 else if n=m then 0 else 1
theorem pT {a b:List Int} {n m:Int} (hn:a.length<4611686018427387904) (ha:Can WW a n) (hb:Can WW b m):Ev (fun k=>cX.f k a b) (fv n m):=by
 unfold cX.f
 by_cases hl:a.length=b.length
 ·obtain ⟨r,h1,h2⟩:=Cj hl hn ha.1 hb.1 a.length a.length rfl (Nat.le_refl _) (by rw [List.drop_length,hl,List.drop_length])
  have e:r=fv n m:=by
   rw [ha.2.2,hb.2.2] at h2
   unfold fv
   rcases h2 with ⟨rfl,h⟩ | ⟨rfl,h⟩ | ⟨rfl,h⟩
   ·rw [if_pos h]
   ·rw [if_neg (by omega),if_pos h]
   ·rw [if_neg (by omega),if_neg (by omega)]
  rw [← e]
  refine evp (by omega) ?_
  rw [w64 (by omega) (by omega)]
  exact h1
 ·refine evn (by omega) ?_
  unfold fv
  by_cases h:a.length<b.length
  ·have:=Can.uH aY ha hb h
   rw [if_pos this]
   exact evp (by omega) (evs _)
  ·have:=Can.uH aY hb ha (by omega)
   rw [if_neg (show ¬ n<m by omega),if_neg (show ¬ n=m by omega)]
   exact evn (by omega) (evs _)
theorem Cn {a b:List Int} (hba:b.length≤a.length) (hn:a.length<1099511627776) (ha:Dg WW a) (hb:Dg WW b) (d:Nat) :
 ∀ (i:Nat) (o:List Int) (c:Int),a.length-i=d→i≤a.length→o.length=a.length+1→Dg WW (o.take i)→0≤c→c≤1→vl WW (o.take i)+c*WW ^ i=vl WW (a.take i)+vl WW (b.take i) →
 ∃ r,Ev (fun k=>dg.l0 k a b o c a (a.length:Int) (i:Int)) r∧Can WW r (vl WW a+vl WW b)∧r.length≤a.length+1:=by
 induction d with
 | zero =>
  intro i o c h1 h2 h3 h4 h5 h6 h7
  have e:i=a.length:=by omega
  subst e
  have hset:o.set a.length c=o.take a.length++[c]:=by
   have:=P.take_set o a.length c (by omega)
   rw [show a.length+1=(o.set a.length c).length by simp [h3],List.take_length] at this
   exact this
  have hd:Dg WW (o.set a.length c):=by rw [hset];exact h4.append (Dg.mk h5 (by have:=aY;omega) (Dg.nil _))
  obtain ⟨r,h8,h9,h10⟩:=fx (l:=o.set a.length c) (by simp;omega) hd
  have hv:vl WW (o.set a.length c)=vl WW a+vl WW b:=by
   rw [hset,iS,List.length_take,Nat.min_eq_left (by omega)]
   rw [List.take_length,List.take_of_length_le hba] at h7
   simp only [vl]
   exact alg_last h7
  refine ⟨r,?_,by rw [← hv];exact h9,by simp at h10;omega⟩
  refine Ev.step (fun k=>by rw [dg.l0]) ?_
  refine evn (by omega) (evp (by omega) (evp (by omega) ?_))
  have ec:c % 4294967296=c:=by omega
  rw [ec,show ((a.length:Int)).toNat=a.length by omega]
  exact Ev.bind h8 (evs _)
 | succ d ih =>
  intro i o c h1 h2 h3 h4 h5 h6 h7
  have hi:i<a.length:=by omega
  have hx:=dZ ha (i:Int) (by omega) (by omega)
  have ti:=dF WW a i hi
  have ep:WW ^ (i+1)=WW*WW ^ i:=by rw [Int.pow_succ,Int.mul_comm]
  have hW:=dx
  by_cases hib:i<b.length
  ·have hy:=dZ hb (i:Int) (by omega) (by omega)
   have tb:=dF WW b i hib
   have ev:(c+rd a i+rd b i) % 4294967296+WW*((c+rd a i+rd b i) / 4294967296)=c+rd a i+rd b i:=by rw [dx];omega
   obtain ⟨r,h8,h9⟩:=ih (i+1) (o.set i ((c+rd a i+rd b i) % 4294967296)) ((c+rd a i+rd b i) / 4294967296) (by omega) (by omega) (by simpa using h3)
    (Dg.take_set (by omega) h4 (by omega) (by omega)) (by omega) (by omega)
    (by rw [iQ _ _ _ _ (by omega),ti,tb,ep];exact alg_add h7 ev)
   refine ⟨r,?_,h9⟩
   refine Ev.step (fun k=>by rw [dg.l0]) ?_
   rw [u64 (x:=rd a i) (by omega) (by omega),u64 (x:=rd b i) (by omega) (by omega),u64 (x:=c+rd a i) (by omega) (by omega),u64 (x:=c+rd a i+rd b i) (by omega) (by omega),iC (by omega)]
   exact evp (by omega) (evp (by omega) (evp (by omega) (evp (by omega) (evp (by omega) h8))))
  ·have tb:vl WW (b.take (i+1))=vl WW (b.take i):=by rw [List.take_of_length_le (by omega),List.take_of_length_le (by omega)]
   have ev:(c+rd a i) % 4294967296+WW*((c+rd a i) / 4294967296)=c+rd a i:=by rw [dx];omega
   obtain ⟨r,h8,h9⟩:=ih (i+1) (o.set i ((c+rd a i) % 4294967296)) ((c+rd a i) / 4294967296) (by omega) (by omega) (by simpa using h3)
    (Dg.take_set (by omega) h4 (by omega) (by omega)) (by omega) (by omega)
    (by rw [iQ _ _ _ _ (by omega),ti,tb,ep];exact alg_add1 h7 ev)
   refine ⟨r,?_,h9⟩
   refine Ev.step (fun k=>by rw [dg.l0]) ?_
   rw [u64 (x:=rd a i) (by omega) (by omega),u64 (x:=c+rd a i) (by omega) (by omega),iC (by omega)]
   exact evp (by omega) (evp (by omega) (evp (by omega) (evn (by omega) (evp (by omega) h8))))
theorem xw {a b:List Int} (hba:b.length≤a.length) (hn:a.length<1099511627776) (ha:Dg WW a) (hb:Dg WW b):∃ r,Ev (fun k=>dg.j0 k a b) r∧Can WW r (vl WW a+vl WW b)∧r.length≤a.length+1:=by
 obtain ⟨r,h1,h2⟩:=Cn hba hn ha hb a.length 0 (List.replicate (a.length+1) 0) 0 (by omega) (by omega) (by simp) (by simp;exact Dg.nil _) (by omega) (by omega) (by simp [vl])
 refine ⟨r,?_,h2⟩
 refine Ev.step (fun k=>by rw [dg.j0]) ?_
 have e:wrap64 ((a.length:Int)+1)=((a.length+1:Nat):Int):=by rw [w64 (by omega) (by omega)];omega
 rw [e,Int.toNat_natCast]
 exact evp (by omega) (evp (by omega) h1)
theorem Cm {a b:List Int} {n m:Int} (hla:a.length<1099511627776) (hlb:b.length<1099511627776) (ha:Can WW a n) (hb:Can WW b m):∃ r,Ev (fun k=>dg.f k a b) r∧Can WW r (n+m)∧r.length≤max a.length b.length+1:=by
 unfold dg.f
 rw [← ha.2.2,← hb.2.2]
 by_cases h:a.length<b.length
 ·obtain ⟨r,h1,h2,h3⟩:=xw (a:=b) (b:=a) (by omega) hlb hb.1 ha.1
  exact ⟨r,evp (by omega) h1,by rw [Int.add_comm];exact h2,by omega⟩
 ·obtain ⟨r,h1,h2,h3⟩:=xw (a:=a) (b:=b) (by omega) hla ha.1 hb.1
  exact ⟨r,evn (by omega) h1,h2,by omega⟩
end Go.Proofs.YtjimdhlmeebjeaaGreat.P
end
section
namespace Go.Proofs.YtjimdhlmeebjeaaGreat.P
open Go.RowKit Go.Proofs.YtjimdhlmeebjeaaGreatW.PrintWords Go.Proofs.YtjimdhlmeebjeaaGreatW.PrintLast Go.Proofs.YtjimdhlmeebjeaaGreatW.PrintMore
set_option linter.unusedVariables false
theorem zy {vo va vb P c c' v x y W:Int} (h:vo-c*P=va-vb) (h2:v-W*c'=x-c-y):vo+v*P-c'*(W*P)=(va+x*P)-(vb+y*P):=by grind
theorem wj {vo va vb P c c' v x W:Int} (h:vo-c*P=va-vb) (h2:v-W*c'=x-c):vo+v*P-c'*(W*P)=(va+x*P)-vb:=by grind
theorem borrow {x c y:Int} (hx:0≤x∧x<4294967296) (hc:0≤c∧c≤1) (hy:0≤y∧y<4294967296) :
 ∃ v c',IntKind.u64.wrap (IntKind.u64.wrap (IntKind.u64.wrap x-c)-y) % 4294967296=v∧IntKind.u64.wrap (IntKind.u64.wrap (IntKind.u64.wrap x-c)-y) / 9223372036854775808=c'∧v-4294967296*c'=x-c-y∧0≤v∧v<4294967296∧0≤c'∧c'≤1:=by
 rw [IntKind.wrap_u64,IntKind.wrap_u64,IntKind.wrap_u64]
 refine ⟨_,_,rfl,rfl,?_,?_,?_,?_,?_⟩<;>omega
theorem borrow1 {x c:Int} (hx:0≤x∧x<4294967296) (hc:0≤c∧c≤1) :
 ∃ v c',IntKind.u64.wrap (IntKind.u64.wrap x-c) % 4294967296=v∧IntKind.u64.wrap (IntKind.u64.wrap x-c) / 9223372036854775808=c'∧v-4294967296*c'=x-c∧0≤v∧v<4294967296∧0≤c'∧c'≤1:=by
 rw [IntKind.wrap_u64,IntKind.wrap_u64]
 refine ⟨_,_,rfl,rfl,?_,?_,?_,?_,?_⟩<;>omega
theorem Cb {a b:List Int} (hba:b.length≤a.length) (hle:vl WW b≤vl WW a) (hn:a.length<1099511627776) (ha:Dg WW a) (hb:Dg WW b) (d:Nat) :
 ∀ (i:Nat) (o:List Int) (c:Int),a.length-i=d→i≤a.length→o.length=a.length→Dg WW (o.take i)→0≤c→c≤1→vl WW (o.take i)-c*WW ^ i=vl WW (a.take i)-vl WW (b.take i) →
 ∃ r,Ev (fun k=>dI.l0 k b o c a (a.length:Int) (i:Int)) r∧Can WW r (vl WW a-vl WW b)∧r.length≤a.length:=by
 induction d with
 | zero =>
  intro i o c h1 h2 h3 h4 h5 h6 h7
  have e:i=a.length:=by omega
  subst e
  rw [List.take_length,List.take_of_length_le hba,← h3,List.take_length] at h7
  rw [← h3,List.take_length] at h4
  have hlt:=iR aM h4
  have hc:c=0:=by
   rcases Int.lt_or_eq_of_le h6 with h | h
   ·omega
   ·subst h
    rw [Int.one_mul] at h7
    omega
  subst hc
  rw [Int.zero_mul,Int.sub_zero] at h7
  obtain ⟨r,h8,h9,h10⟩:=fx (l:=o) (by omega) h4
  refine ⟨r,?_,by rw [← h7];exact h9,by omega⟩
  refine Ev.step (fun k=>by rw [dI.l0]) ?_
  refine evn (by omega) ?_
  exact Ev.bind h8 (evs _)
 | succ d ih =>
  intro i o c h1 h2 h3 h4 h5 h6 h7
  have hi:i<a.length:=by omega
  have hx:=dZ ha (i:Int) (by omega) (by omega)
  have ti:=dF WW a i hi
  have ep:WW ^ (i+1)=WW*WW ^ i:=by rw [Int.pow_succ,Int.mul_comm]
  by_cases hib:i<b.length
  ·have hy:=dZ hb (i:Int) (by omega) (by omega)
   have tb:=dF WW b i hib
   obtain ⟨v,c',e1,e2,e3,v0,v1,c0,c1⟩:=borrow hx ⟨h5,h6⟩ hy
   obtain ⟨r,h8,h9⟩:=ih (i+1) (o.set i v) c' (by omega) (by omega) (by simpa using h3) (Dg.take_set (by omega) h4 v0 v1) c0 c1
    (by rw [iQ _ _ _ _ (by omega),ti,tb,ep];exact zy h7 e3)
   refine ⟨r,?_,h9⟩
   refine Ev.step (fun k=>by rw [dI.l0]) ?_
   rw [u64 (x:=rd b i) hy.1 (by have:=hy.2;have:=dx;omega),e1,e2,iC (by omega)]
   exact evp (by omega) (evp (by omega) (evp (by omega) (evp (by omega) (evp (by omega) h8))))
  ·have tb:vl WW (b.take (i+1))=vl WW (b.take i):=by rw [List.take_of_length_le (by omega),List.take_of_length_le (by omega)]
   obtain ⟨v,c',e1,e2,e3,v0,v1,c0,c1⟩:=borrow1 hx ⟨h5,h6⟩
   obtain ⟨r,h8,h9⟩:=ih (i+1) (o.set i v) c' (by omega) (by omega) (by simpa using h3) (Dg.take_set (by omega) h4 v0 v1) c0 c1
    (by rw [iQ _ _ _ _ (by omega),ti,tb,ep];exact wj h7 e3)
   refine ⟨r,?_,h9⟩
   refine Ev.step (fun k=>by rw [dI.l0]) ?_
   rw [e1,e2,iC (by omega)]
   exact evp (by omega) (evp (by omega) (evp (by omega) (evn (by omega) (evp (by omega) h8))))
theorem kz {a b:List Int} {n m:Int} (ha:Can WW a n) (hb:Can WW b m) (h:m≤n):b.length≤a.length:=by
 rcases Nat.lt_or_ge a.length b.length with hl | hl
 ·have:=Can.uH aY ha hb hl
  omega
 ·exact hl
theorem pR {a b:List Int} {n m:Int} (hn:a.length<1099511627776) (ha:Can WW a n) (hb:Can WW b m) (hle:m≤n):∃ r,Ev (fun k=>dI.f k a b) r∧Can WW r (n-m)∧r.length≤a.length:=by
 have hba:=kz ha hb hle
 rw [← ha.2.2,← hb.2.2] at *
 obtain ⟨r,h1,h2⟩:=Cb hba hle hn ha.1 hb.1 a.length 0 (List.replicate a.length 0) 0 (by omega) (by omega) (by simp) (by simp;exact Dg.nil _) (by omega) (by omega) (by simp [vl])
 refine ⟨r,?_,h2⟩
 unfold dI.f
 rw [Int.toNat_natCast]
 exact evp (by omega) (evp (by omega) h1)
theorem tT (B:Int) (l:List Int) (p q:Nat) (v:Int) (h:p<q) (hq:q≤l.length):vl B ((l.set p v).take q)=vl B (l.take q)+(v-rd l (p:Int))*B ^ p:=by
 have h1:=iD B ((l.set p v).take q) (p+1) (by simp;omega)
 have h2:=iD B (l.take q) (p+1) (by simp;omega)
 have e1:((l.set p v).take q).take (p+1)=(l.set p v).take (p+1):=by rw [List.take_take,Nat.min_eq_left (by omega)]
 have e2:(l.take q).take (p+1)=l.take (p+1):=by rw [List.take_take,Nat.min_eq_left (by omega)]
 have e3:((l.set p v).take q).drop (p+1)=(l.take q).drop (p+1):=by
  rw [List.drop_take,List.drop_take,List.drop_set_of_lt (by omega)]
 rw [e1,e3,iQ _ _ _ _ (by omega)] at h1
 rw [e2,dF _ _ _ (by omega)] at h2
 rw [h1,h2]
 grind
theorem alg_mul {T va vb x y old P c c' v W xb Pi Pj:Int} (h:T+c*P=va*vb+x*Pi*xb) (h2:v+W*c'=c+(x*y+old)) (hP:P=Pi*Pj):(T+(v-old)*P)+c'*(W*P)=va*vb+x*Pi*(xb+y*Pj):=by grind
theorem xr {x y:Int} (hx:0≤x∧x<4294967296) (hy:0≤y∧y<4294967296):0≤x*y∧x*y≤18446744065119617025:=by
 have h1:0≤x*y:=Int.mul_nonneg hx.1 hy.1
 have h2:x*y≤4294967295*4294967295:=Int.mul_le_mul (by omega) (by omega) hy.1 (by omega)
 omega
theorem mulc {x y old c:Int} (hx:0≤x∧x<4294967296) (hy:0≤y∧y<4294967296) (ho:0≤old∧old<4294967296) (hc:0≤c∧c<4294967296) :
 ∃ v c',IntKind.u64.wrap (c+IntKind.u64.wrap (IntKind.u64.wrap (IntKind.u64.wrap x*IntKind.u64.wrap y)+IntKind.u64.wrap old)) % 4294967296=v∧IntKind.u64.wrap (c+IntKind.u64.wrap (IntKind.u64.wrap (IntKind.u64.wrap x*IntKind.u64.wrap y)+IntKind.u64.wrap old)) / 4294967296=c'∧v+4294967296*c'=c+(x*y+old)∧0≤v∧v<4294967296∧0≤c'∧c'<4294967296:=by
 have hb:=xr hx hy
 rw [u64 (x:=x) (by omega) (by omega),u64 (x:=y) (by omega) (by omega),u64 (x:=old) (by omega) (by omega),u64 (x:=x*y) (by omega) (by omega),u64 (x:=x*y+old) (by omega) (by omega),u64 (x:=c+(x*y+old)) (by omega) (by omega)]
 refine ⟨_,_,rfl,rfl,?_,?_,?_,?_,?_⟩<;>omega
theorem Bb {T c P va vb x Pi:Int} (h:T+c*P=va*vb+x*Pi*vb):T+c*P=(va+x*Pi)*vb:=by rw [h];grind
theorem Cf {a b:List Int} (hn:a.length+b.length<1099511627776) (ha:Dg WW a) (hb:Dg WW b) (i:Nat) (hi:i<a.length) (R:List Int)
 (hout:∀ o:List Int,o.length=a.length+b.length→Dg WW o→vl WW (o.take (i+1+b.length))=vl WW (a.take (i+1))*vl WW b→Ev (fun k=>bC.l0 k b o a (a.length:Int) ((i+1:Nat):Int)) R) (d:Nat) :
 ∀ (j:Nat) (o:List Int) (c:Int),b.length-j=d→j≤b.length→o.length=a.length+b.length→Dg WW o→0≤c→c<4294967296 →
 vl WW (o.take (i+b.length))+c*WW ^ (i+j)=vl WW (a.take i)*vl WW b+rd a i*WW ^ i*vl WW (b.take j) →
 Ev (fun k=>bC.l1 k b o (i:Int) (rd a i) c a (a.length:Int) (i:Int) b (b.length:Int) (j:Int)) R:=by
 induction d with
 | zero =>
  intro j o c h1 h2 h3 h4 h5 h6 h7
  have e:j=b.length:=by omega
  subst e
  rw [List.take_length] at h7
  have ei:((i:Int)+(b.length:Int))=((i+b.length:Nat):Int):=by omega
  refine Ev.step (fun k=>by rw [bC.l1]) ?_
  rw [ei,w64 (x:=((i+b.length:Nat):Int)) (by omega) (by omega),Int.toNat_natCast,iC (i:=i) (by omega),Int.emod_eq_of_lt h5 h6]
  refine evn (by omega) (evp (by omega) (evp (by omega) ?_))
  refine hout _ (by simpa using h3) (h4.set _ h5 (by rw [dx];exact h6)) ?_
  rw [show i+1+b.length=i+b.length+1 by omega,iQ _ _ _ _ (by omega),dF WW a i hi]
  exact Bb h7
 | succ d ih =>
  intro j o c h1 h2 h3 h4 h5 h6 h7
  have hx:=dZ ha (i:Int) (by omega) (by omega)
  have hy:=dZ hb (j:Int) (by omega) (by omega)
  have ho:=dZ h4 ((i+j:Nat):Int) (by omega) (by omega)
  rw [dx] at hx hy ho
  obtain ⟨v,c',e1,e2,e3,v0,v1,c0,c1⟩:=mulc hx hy ho ⟨h5,h6⟩
  have h8:=ih (j+1) (o.set (i+j) v) c' (by omega) (by omega) (by simpa using h3) (h4.set _ v0 (by rw [dx];exact v1)) c0 c1
   (by
    rw [tT _ _ _ _ _ (by omega) (by omega),dF WW b j (by omega),show i+(j+1)=i+j+1 by omega,Int.pow_succ,Int.mul_comm (WW ^ (i+j)) WW]
    exact alg_mul h7 e3 (Int.pow_add _ _ _))
  have ei:((i:Int)+(j:Int))=((i+j:Nat):Int):=by omega
  refine Ev.step (fun k=>by rw [bC.l1]) ?_
  rw [ei,w64 (x:=((i+j:Nat):Int)) (by omega) (by omega),e1,e2,iC (by omega),Int.toNat_natCast]
  exact evp (by omega) (evp (by omega) (evp (by omega) (evp (by omega) (evp (by omega) h8))))
theorem yY {n m A C:Int} (h1:n<A) (h2:m<C) (h3:0≤n) (h4:0≤m):n*m<A*C:=by
 have h5:n*m≤n*C:=Int.mul_le_mul_of_nonneg_left (by omega) h3
 have h6:n*C<A*C:=Int.mul_lt_mul_of_pos_right h1 (by omega)
 omega
theorem y9 {a b:List Int} (hn:a.length+b.length<1099511627776) (ha:Dg WW a) (hb:Dg WW b):∃ R,Can WW R (vl WW a*vl WW b)∧R.length≤a.length+b.length∧∀ (d i:Nat) (o:List Int),a.length-i=d→i≤a.length→o.length=a.length+b.length→Dg WW o→vl WW (o.take (i+b.length))=vl WW (a.take i)*vl WW b →
 Ev (fun k=>bC.l0 k b o a (a.length:Int) (i:Int)) R:=by
 have key:∀ o:List Int,o.length=a.length+b.length→Dg WW o→vl WW (o.take (a.length+b.length))=vl WW (a.take a.length)*vl WW b→∃ r,Ev (fun k=>bC.l0 k b o a (a.length:Int) (a.length:Int)) r∧Can WW r (vl WW a*vl WW b)∧r.length≤a.length+b.length:=by
  intro o h1 h2 h3
  obtain ⟨r,h8,h9,h10⟩:=fx (l:=o) (by omega) h2
  rw [← h1,List.take_length,List.take_length] at h3
  refine ⟨r,?_,by rw [← h3];exact h9,by omega⟩
  refine Ev.step (fun k=>by rw [bC.l0]) ?_
  exact evn (by omega) (Ev.bind h8 (evs _))
 have hv:∃ R,Can WW R (vl WW a*vl WW b)∧R.length≤a.length+b.length:=by
  have hnn:0≤vl WW a*vl WW b:=Int.mul_nonneg (bV aM ha) (bV aM hb)
  obtain ⟨R,hR⟩:=can_ex aY hnn
  refine ⟨R,hR,?_⟩
  refine hR.fm aY ?_
  rw [Int.pow_add]
  have h1:=iR aM ha
  have h2:=iR aM hb
  have h3:=bV aM ha
  have h4:=bV aM hb
  exact yY h1 h2 h3 h4
 obtain ⟨R,hR,hRl⟩:=hv
 refine ⟨R,hR,hRl,?_⟩
 intro d
 induction d with
 | zero =>
  intro i o h1 h2 h3 h4 h5
  have e:i=a.length:=by omega
  subst e
  obtain ⟨r,h6,h7,_⟩:=key o h3 h4 h5
  rw [bS aM hR h7]
  exact h6
 | succ d ih =>
  intro i o h1 h2 h3 h4 h5
  have h6:=Cf hn ha hb i (by omega) R (fun o' q1 q2 q3=>ih (i+1) o' (by omega) (by omega) q1 q2 (by rw [q3])) b.length 0 o 0 (by omega) (by omega) h3 h4 (by omega) (by omega) (by rw [h5];simp [vl])
  refine Ev.step (fun k=>by rw [bC.l0]) ?_
  exact evp (by omega) (evp (by omega) (evp (by omega) h6))
theorem ko {a b:List Int} {n m:Int} (hn:a.length+b.length<1099511627776) (ha:Can WW a n) (hb:Can WW b m):∃ r,Ev (fun k=>bC.f k a b) r∧Can WW r (n*m)∧r.length≤a.length+b.length:=by
 by_cases ha0:a.length=0
 ·have e:a=[]:=List.eq_nil_of_length_eq_zero ha0
  subst e
  have:n=0:=by rw [← ha.2.2];rfl
  subst this
  refine ⟨[],?_,by rw [Int.zero_mul];exact Can.zero _,Nat.zero_le _⟩
  unfold bC.f
  refine evp (by simp) ?_
  refine Ev.step (fun k=>by rw [bC.j0]) ?_
  exact evp rfl (evs _)
 ·by_cases hb0:b.length=0
  ·have e:b=[]:=List.eq_nil_of_length_eq_zero hb0
   subst e
   have:m=0:=by rw [← hb.2.2];rfl
   subst this
   refine ⟨[],?_,by rw [Int.mul_zero];exact Can.zero _,Nat.zero_le _⟩
   unfold bC.f
   refine evn (by omega) ?_
   refine Ev.step (fun k=>by rw [bC.j0]) ?_
   exact evp rfl (evs _)
  ·obtain ⟨R,h1,h2,h3⟩:=y9 hn ha.1 hb.1
   rw [ha.2.2,hb.2.2] at h1
   refine ⟨R,?_,h1,h2⟩
   have h4:=h3 a.length 0 (List.replicate (a.length+b.length) 0) (by omega) (by omega) (by simp) (Dg.rep aM _) (by rw [List.take_replicate];simp [vl,zF])
   unfold bC.f
   refine evn (by omega) ?_
   refine Ev.step (fun k=>by rw [bC.j0]) ?_
   have e:(a.length:Int)+(b.length:Int)=((a.length+b.length:Nat):Int):=by omega
   rw [e,w64 (by omega) (by omega),Int.toNat_natCast]
   refine evn ?_ (evp (by omega) (evp (by omega) h4))
   simp only [beq_iff_eq]
   omega
end Go.Proofs.YtjimdhlmeebjeaaGreat.P
end
section
namespace Go.Proofs.YtjimdhlmeebjeaaGreat.P
open Go.RowKit Go.Proofs.YtjimdhlmeebjeaaGreatW.PrintWords Go.Proofs.YtjimdhlmeebjeaaGreatW.PrintLast Go.Proofs.YtjimdhlmeebjeaaGreatW.PrintMore
set_option linter.unusedVariables false
abbrev RR:Int:=10000
theorem bj:(0:Int)<RR:=by decide
theorem eI:(1:Int)<RR:=by decide
theorem e9:RR=10000:=rfl
theorem Dp {l:List Int} (hn:l.length<4611686018427387904) (hd:Dg RR l) (d:Nat):∀ i:Nat,i=d→i≤l.length→∃ r,Ev (fun k=>aS.l0 k l (i:Int)) r∧Can RR r (vl RR (l.take i))∧r.length≤i:=by
 induction d with
 | zero =>
  rintro i rfl h
  refine ⟨[],?_,Can.zero _,Nat.le_refl _⟩
  refine Ev.step (fun k=>by rw [aS.l0]) ?_
  exact evn (by omega) (evp (by omega) (evp (by omega) (evs _)))
 | succ d ih =>
  rintro i rfl h
  have hw:((d+1:Nat):Int)-1=(d:Int):=by omega
  by_cases hz:rd l d=0
  ·obtain ⟨r,h1,h2,h3⟩:=ih d rfl (by omega)
   refine ⟨r,?_,?_,by omega⟩
   ·refine Ev.step (fun k=>by rw [aS.l0]) ?_
    rw [hw,w64 (x:=(d:Int)) (by omega) (by omega)]
    exact evp (by omega) (evp (by omega) (evp (by omega) (evp hz h1)))
   ·rw [dF RR l d (by omega),hz,Int.zero_mul,Int.add_zero]
    exact h2
  ·refine ⟨l.take (d+1),?_,⟨hd.take _,mU (fun _=>?_),rfl⟩,by rw [List.length_take];omega⟩
   ·refine Ev.step (fun k=>by rw [aS.l0]) ?_
    rw [hw,w64 (x:=(d:Int)) (by omega) (by omega),Int.toNat_natCast]
    exact evp (by omega) (evp (by omega) (evp (by omega) (evn hz (evp (by omega) (evp (by omega) (evs _))))))
   ·rw [List.length_take,Nat.min_eq_left (by omega),hw,rd_take _ _ _ (by omega)]
    exact hz
theorem lW {l:List Int} (hn:l.length<4611686018427387904) (hd:Dg RR l):∃ r,Ev (fun k=>aS.f k l) r∧Can RR r (vl RR l)∧r.length≤l.length:=by
 obtain ⟨r,h1,h2⟩:=Dp hn hd l.length l.length rfl (Nat.le_refl _)
 rw [List.take_length] at h2
 exact ⟨r,Ev.congr (fun k=>by rw [aS.f]) h1,h2⟩
theorem mw {a b:List Int} (hl:a.length=b.length) (hn:a.length<4611686018427387904) (ha:Dg RR a) (hb:Dg RR b) (d:Nat) :
 ∀ (i:Nat),i=d→i≤a.length→vl RR (a.drop i)=vl RR (b.drop i)→∃ r,Ev (fun k=>aG.l0 k a b ((i:Int)-1)) r∧(r = -1∧vl RR a<vl RR b∨r=0∧vl RR a=vl RR b∨r=1∧vl RR b<vl RR a):=by
 induction d with
 | zero =>
  rintro i rfl h1 h2
  refine ⟨0,?_,.inr (.inl ⟨rfl,by simpa using h2⟩)⟩
  refine Ev.step (fun k=>by rw [aG.l0]) ?_
  exact evn (by omega) (evs _)
 | succ d ih =>
  rintro i rfl h1 h2
  have e1:(((d+1:Nat):Int)-1)=(d:Int):=by omega
  rw [e1]
  have h3:=iD RR a d (by omega)
  have h4:=iD RR b d (by omega)
  have ea:a.drop d=rd a d :: a.drop (d+1):=by rw [pG a d (by omega)];exact (List.drop_eq_getElem_cons (by omega))
  have eb:b.drop d=rd b d :: b.drop (d+1):=by rw [pG b d (by omega)];exact (List.drop_eq_getElem_cons (by omega))
  have ta:=iR bj (ha.take d)
  have tb:=iR bj (hb.take d)
  have ta0:=bV bj (ha.take d)
  have tb0:=bV bj (hb.take d)
  rw [List.length_take,Nat.min_eq_left (by omega)] at ta tb
  by_cases he:rd a d=rd b d
  ·obtain ⟨r,h5,h6⟩:=ih d rfl (by omega) (by rw [ea,eb,vl,vl,he,h2])
   refine ⟨r,?_,h6⟩
   refine Ev.step (fun k=>by rw [aG.l0]) ?_
   rw [w64 (by omega) (by omega)]
   exact evp (by omega) (evp (by omega) (evp (by omega) (evp (by omega) (evp he h5))))
  ·have h7:vl RR (a.drop d)=rd a d+RR*vl RR (a.drop (d+1)):=by rw [ea,vl]
   have h8:vl RR (b.drop d)=rd b d+RR*vl RR (b.drop (d+1)):=by rw [eb,vl]
   have hp:0<RR ^ d:=Int.pow_pos bj
   by_cases hlt:rd a d<rd b d
   ·refine ⟨-1,?_,.inl ⟨rfl,?_⟩⟩
    ·refine Ev.step (fun k=>by rw [aG.l0]) ?_
     exact evp (by omega) (evp (by omega) (evp (by omega) (evp (by omega) (evn he (evp hlt (evs _))))))
    ·have h9:RR ^ d*(vl RR (a.drop d)+1)≤RR ^ d*vl RR (b.drop d):=Int.mul_le_mul_of_nonneg_left (by rw [h7,h8,h2];omega) (by omega)
     rw [Int.mul_add] at h9
     omega
   ·refine ⟨1,?_,.inr (.inr ⟨rfl,?_⟩)⟩
    ·refine Ev.step (fun k=>by rw [aG.l0]) ?_
     exact evp (by omega) (evp (by omega) (evp (by omega) (evp (by omega) (evn he (evn hlt (evs _))))))
    ·have h9:RR ^ d*(vl RR (b.drop d)+1)≤RR ^ d*vl RR (a.drop d):=Int.mul_le_mul_of_nonneg_left (by rw [h7,h8,h2];omega) (by omega)
     rw [Int.mul_add] at h9
     omega
theorem dC {a b:List Int} {n m:Int} (hn:a.length<4611686018427387904) (ha:Can RR a n) (hb:Can RR b m):Ev (fun k=>aG.f k a b) (fv n m):=by
 unfold aG.f
 by_cases hl:a.length=b.length
 ·obtain ⟨r,h1,h2⟩:=mw hl hn ha.1 hb.1 a.length a.length rfl (Nat.le_refl _) (by rw [List.drop_length,hl,List.drop_length])
  have e:r=fv n m:=by
   rw [ha.2.2,hb.2.2] at h2
   unfold fv
   rcases h2 with ⟨rfl,h⟩ | ⟨rfl,h⟩ | ⟨rfl,h⟩
   ·rw [if_pos h]
   ·rw [if_neg (by omega),if_pos h]
   ·rw [if_neg (by omega),if_neg (by omega)]
  rw [← e]
  refine evp (by omega) ?_
  rw [w64 (by omega) (by omega)]
  exact h1
 ·refine evn (by omega) ?_
  unfold fv
  by_cases h:a.length<b.length
  ·have:=Can.uH eI ha hb h
   rw [if_pos this]
   exact evp (by omega) (evs _)
  ·have:=Can.uH eI hb ha (by omega)
   rw [if_neg (show ¬ n<m by omega),if_neg (show ¬ n=m by omega)]
   exact evn (by omega) (evs _)
theorem fS {x:Int} (h:0≤x) (m:Int):Int.tmod x m=x % m:=Int.tmod_eq_emod_of_nonneg h
theorem fH {x:Int} (h:0≤x) (m:Int):Int.tdiv x m=x / m:=Int.tdiv_eq_ediv_of_nonneg h
theorem nI (B:Int) (l:List Int) (x:Int):vl B (l++[x])=vl B l+x*B ^ l.length:=by
 rw [iS]
 simp only [vl]
 grind
theorem alg_sm {vo c P n v c' R:Int} (h:vo+c*P=n) (h2:v+R*c'=c):vo+v*P+c'*(R*P)=n:=by grind
theorem alg_sm2 {vo c P va x k v c' R c0:Int} (h:vo+c*P=c0+k*va) (h2:v+R*c'=c+x*k):vo+v*P+c'*(R*P)=c0+k*(va+x*P):=by grind
theorem BN (o0:List Int) (n:Int) (c:Nat):∀ (o:List Int) (cc:Int),cc=(c:Int)→cc<4611686018427387904→o.length+c<1099511627776→Dg RR o→vl RR o+cc*RR ^ o.length=n→∃ r,Ev (fun k=>ax.l1 k cc o) r∧Can RR r n:=by
 induction c using Nat.strongRecOn with
 | _ c ih =>
  intro o cc hcc hlt hl hd hv
  by_cases h0:c=0
  ·subst h0
   have e:cc=0:=by omega
   subst e
   rw [Int.zero_mul,Int.add_zero] at hv
   obtain ⟨r,h1,h2,_⟩:=lW (l:=o) (by omega) hd
   refine ⟨r,?_,by rw [← hv];exact h2⟩
   refine Ev.step (fun k=>by rw [ax.l1]) ?_
   exact evn (by omega) (Ev.bind h1 (evs _))
  ·obtain ⟨r,h1,h2⟩:=ih (c / 10000) (by omega) (o++[cc % 10000]) (cc / 10000) (by omega) (by omega) (by simp;omega) (hd.append (Dg.mk (by omega) (by rw [e9];omega) (Dg.nil _)))
    (by rw [nI,List.length_append,List.length_singleton,Int.pow_succ,Int.mul_comm (RR ^ o.length) RR];exact alg_sm hv (by rw [e9];omega))
   refine ⟨r,?_,h2⟩
   refine Ev.step (fun k=>by rw [ax.l1]) ?_
   rw [fS (x:=cc) (by omega),fH (x:=cc) (by omega),w64 (x:=cc / 10000) (by omega) (by omega)]
   exact evp (by omega) (evp (by omega) h1)
theorem BM {a:List Int} (hn:a.length<549755813888) (ha:Dg RR a) {k0 c0:Int} (hk:0≤k0∧k0≤65536) (d:Nat) :
 ∀ (i:Nat) (o:List Int) (c:Int),a.length-i=d→i≤a.length→o.length=i→Dg RR o→0≤c→c≤65536→vl RR o+c*RR ^ i=c0+k0*vl RR (a.take i) →
 ∃ r,Ev (fun k=>ax.l0 k k0 c o a (a.length:Int) (i:Int)) r∧Can RR r (c0+k0*vl RR a):=by
 induction d with
 | zero =>
  intro i o c h1 h2 h3 h4 h5 h6 h7
  have e:i=a.length:=by omega
  subst e
  rw [List.take_length] at h7
  obtain ⟨r,h8,h9⟩:=BN o (c0+k0*vl RR a) c.toNat o c (by omega) (by omega) (by omega) h4 (by rw [h3];exact h7)
  refine ⟨r,?_,h9⟩
  refine Ev.step (fun k=>by rw [ax.l0]) ?_
  exact evn (by omega) h8
 | succ d ih =>
  intro i o c h1 h2 h3 h4 h5 h6 h7
  have hx:=dZ ha (i:Int) (by omega) (by omega)
  rw [e9] at hx
  have hm:0≤rd a i*k0:=Int.mul_nonneg hx.1 hk.1
  have hm2:rd a i*k0≤9999*65536:=Int.mul_le_mul (by omega) hk.2 hk.1 (by omega)
  obtain ⟨r,h8,h9⟩:=ih (i+1) (o++[(c+rd a i*k0) % 10000]) ((c+rd a i*k0) / 10000) (by omega) (by omega) (by simp;omega) (h4.append (Dg.mk (by omega) (by rw [e9];omega) (Dg.nil _))) (by omega) (by omega)
   (by rw [nI,h3,dF RR a i (by omega),Int.pow_succ,Int.mul_comm (RR ^ i) RR];exact alg_sm2 h7 (by rw [e9];omega))
  refine ⟨r,?_,h9⟩
  refine Ev.step (fun k=>by rw [ax.l0]) ?_
  rw [w64 (x:=rd a i*k0) (by omega) (by omega),w64 (x:=c+rd a i*k0) (by omega) (by omega),fS (x:=c+rd a i*k0) (by omega),fH (x:=c+rd a i*k0) (by omega),w64 (x:=(c+rd a i*k0) / 10000) (by omega) (by omega),iC (i:=i) (by omega)]
  exact evp (by omega) (evp (by omega) (evp (by omega) (evp (by omega) h8)))
theorem jt {a:List Int} {n k0 c0:Int} (hn:a.length<549755813888) (ha:Can RR a n) (hk:0≤k0∧k0≤65536) (hc:0≤c0∧c0≤65536):∃ r,Ev (fun k=>ax.f k a k0 c0) r∧Can RR r (n*k0+c0)∧r.length≤a.length+2:=by
 obtain ⟨r,h1,h2⟩:=BM hn ha.1 hk (c0:=c0) a.length 0 [] c0 (by omega) (by omega) rfl (Dg.nil _) hc.1 hc.2 (by simp [vl])
 rw [ha.2.2,Int.add_comm,Int.mul_comm] at h2
 refine ⟨r,?_,h2,?_⟩
 ·unfold ax.f
  have e:(a.length:Int)+2=((a.length+2:Nat):Int):=by omega
  rw [e,w64 (by omega) (by omega),Int.toNat_natCast]
  exact evp (by omega) (evp (by omega) h1)
 ·refine h2.fm eI ?_
  have h3:=ha.lt bj
  have h4:=ha.gu bj
  have h5:n*k0≤n*65536:=Int.mul_le_mul_of_nonneg_left hk.2 h4
  have h6:RR ^ (a.length+2)=RR ^ a.length*100000000:=by rw [Int.pow_add];rfl
  rw [h6]
  omega
theorem Ad (n:Int) (c:Nat):∀ (o:List Int) (cc:Int),cc=(c:Int)→cc<4611686018427387904→o.length+c<17592186044416→Dg RR o→(c=0→Nm o)→vl RR o+cc*RR ^ o.length=n→∃ r,Ev (fun k=>aH.l0 k cc o) r∧Can RR r n:=by
 induction c using Nat.strongRecOn with
 | _ c ih =>
  intro o cc hcc hlt hl hd hnm hv
  by_cases h0:c=0
  ·subst h0
   have e:cc=0:=by omega
   subst e
   rw [Int.zero_mul,Int.add_zero] at hv
   refine ⟨o,?_,hd,hnm rfl,hv⟩
   refine Ev.step (fun k=>by rw [aH.l0]) ?_
   exact evn (by omega) (evs _)
  ·obtain ⟨r,h1,h2⟩:=ih (c / 10000) (by omega) (o++[cc % 10000]) (cc / 10000) (by omega) (by omega) (by simp;omega) (hd.append (Dg.mk (by omega) (by rw [e9];omega) (Dg.nil _)))
    (by
     intro hz hne
     simp only [List.getLast_append,List.getLast_singleton]
     simp
     omega)
    (by rw [nI,List.length_append,List.length_singleton,Int.pow_succ,Int.mul_comm (RR ^ o.length) RR];exact alg_sm hv (by rw [e9];omega))
   refine ⟨r,?_,h2⟩
   refine Ev.step (fun k=>by rw [aH.l0]) ?_
   rw [fS (x:=cc) (by omega),fH (x:=cc) (by omega),w64 (x:=cc / 10000) (by omega) (by omega)]
   exact evp (by omega) (evp (by omega) h1)
theorem Ac {a:Int} (h0:0≤a) (h1:a<10000000000000):∃ r,Ev (fun k=>aH.f k a) r∧Can RR r a:=by
 obtain ⟨r,h2,h3⟩:=Ad a a.toNat [] a (by omega) (by omega) (by simp;omega) (Dg.nil _) (fun _=>Nm.nil) (by simp [vl])
 exact ⟨r,Ev.congr (fun k=>by rw [aH.f]) h2,h3⟩
theorem and16 {x:Int} (h0:0≤x) (h1:x<4294967296):Go.bits .and .u32 x 65535=x % 65536 :=
 bits_mask .u32 32 (by decide) (fun n h0 h1=>by rw [IntKind.wrap_u32];omega) 16 (by decide) x h0 h1
end Go.Proofs.YtjimdhlmeebjeaaGreat.P
end
section
namespace Go.Proofs.YtjimdhlmeebjeaaGreat.P
open Go.RowKit Go.Proofs.YtjimdhlmeebjeaaGreatW.PrintWords Go.Proofs.YtjimdhlmeebjeaaGreatW.PrintLast Go.Proofs.YtjimdhlmeebjeaaGreatW.PrintMore
set_option linter.unusedVariables false
theorem An {B:Int} {l:List Int} (hB:0<B) (hd:Dg B l) (h:B ^ (l.length-1)≤vl B l):Nm l:=by
 refine mU (fun hp hz=>?_)
 have e:(l.length:Int)-1=((l.length-1:Nat):Int):=by omega
 rw [e] at hz
 have h1:=dF B l (l.length-1) (by omega)
 rw [hz,show l.length-1+1=l.length by omega,List.take_length] at h1
 have h2:=iR hB (hd.take (l.length-1))
 rw [List.length_take,Nat.min_eq_left (by omega)] at h2
 omega
theorem alg_radd {vo va vb P c c' v x y R:Int} (h:vo+c*P=va+vb) (h2:v+R*c'=c+x+y):(vo+v*P)+c'*(R*P)=(va+x*P)+(vb+y*P):=by grind
theorem fD (l:List Int) (i:Nat) (h:l.length≤i):l.take i=l:=List.take_of_length_le h
theorem r_Add_ev {a b:List Int} {n m:Int} (hn:a.length+b.length<68719476736) (ha:Can RR a n) (hb:Can RR b m) (d:Nat) :
 ∀ (i:Nat) (o:List Int) (c:Int),max a.length b.length+1-i=d→i≤max a.length b.length+1→o.length=i→Dg RR o→0≤c→c≤1→(max a.length b.length<i→c=0∧RR ^ (max a.length b.length)≤n+m) →
 vl RR o+c*RR ^ i=vl RR (a.take i)+vl RR (b.take i)→∃ r,Ev (fun k=>aC.l0 k a b o c (i:Int)) r∧Can RR r (n+m)∧r.length≤max a.length b.length+1:=by
 induction d with
 | zero =>
  intro i o c h1 h2 h3 h4 h5 h6 h7 h8
  obtain ⟨hc,hge⟩:=h7 (by omega)
  subst hc
  rw [fD a i (by omega),fD b i (by omega),ha.2.2,hb.2.2,Int.zero_mul,Int.add_zero] at h8
  refine ⟨o,?_,⟨h4,An bj h4 ?_,h8⟩,by omega⟩
  ·refine Ev.step (fun k=>by rw [aC.l0]) ?_
   refine evn (by omega) (evn (by omega) ?_)
   refine Ev.step (fun k=>by rw [aC.j1]) ?_
   exact evn (by simp) (evs _)
  ·rw [h8,h3,show i-1=max a.length b.length by omega]
   exact hge
 | succ d ih =>
  intro i o c h1 h2 h3 h4 h5 h6 h7 h8
  have step:∀ (x y:Int),0≤x∧x<10000→0≤y∧y<10000→vl RR (a.take (i+1))=vl RR (a.take i)+x*RR ^ i→vl RR (b.take (i+1))=vl RR (b.take i)+y*RR ^ i→(max a.length b.length<i+1→(c+x+y) / 10000=0∧RR ^ (max a.length b.length)≤n+m) →
   ∃ r,Ev (fun k=>aC.l0 k a b (o++[(c+x+y) % 10000]) ((c+x+y) / 10000) ((i+1:Nat):Int)) r∧Can RR r (n+m)∧r.length≤max a.length b.length+1:=by
   intro x y hx hy ta tb hg
   refine ih (i+1) _ _ (by omega) (by omega) (by simp;omega) (h4.append (Dg.mk (by omega) (by rw [e9];omega) (Dg.nil _))) (by omega) (by omega) hg ?_
   rw [nI,h3,ta,tb,Int.pow_succ,Int.mul_comm (RR ^ i) RR]
   exact alg_radd h8 (by rw [e9];omega)
  by_cases hia:i<a.length
  ·have hx:=dZ ha.1 (i:Int) (by omega) (by omega)
   rw [e9] at hx
   by_cases hib:i<b.length
   ·have hy:=dZ hb.1 (i:Int) (by omega) (by omega)
    rw [e9] at hy
    obtain ⟨r,q1,q2⟩:=step _ _ hx hy (dF RR a i hia) (dF RR b i hib) (fun h=>by omega)
    refine ⟨r,?_,q2⟩
    refine Ev.step (fun k=>by rw [aC.l0]) ?_
    refine evp (by omega) ?_
    refine Ev.step (fun k=>by rw [aC.j1]) ?_
    rw [w64 (x:=c+rd a i) (by omega) (by omega),w64 (x:=c+rd a i+rd b i) (by omega) (by omega),fS (x:=c+rd a i+rd b i) (by omega),fH (x:=c+rd a i+rd b i) (by omega),w64 (x:=(c+rd a i+rd b i) / 10000) (by omega) (by omega),iC (i:=i) (by omega)]
    exact evp rfl (evp (by omega) (evp (by omega) (evp (by omega) (evp (by omega) q1))))
   ·obtain ⟨r,q1,q2⟩:=step _ 0 hx (by omega) (dF RR a i hia) (by rw [fD b i (by omega),fD b (i+1) (by omega)];omega) (fun h=>by omega)
    rw [Int.add_zero] at q1
    refine ⟨r,?_,q2⟩
    refine Ev.step (fun k=>by rw [aC.l0]) ?_
    refine evp (by omega) ?_
    refine Ev.step (fun k=>by rw [aC.j1]) ?_
    rw [w64 (x:=c+rd a i) (by omega) (by omega),fS (x:=c+rd a i) (by omega),fH (x:=c+rd a i) (by omega),w64 (x:=(c+rd a i) / 10000) (by omega) (by omega),iC (i:=i) (by omega)]
    exact evp rfl (evp (by omega) (evp (by omega) (evn (by omega) (evp (by omega) q1))))
  ·by_cases hib:i<b.length
   ·have hy:=dZ hb.1 (i:Int) (by omega) (by omega)
    rw [e9] at hy
    obtain ⟨r,q1,q2⟩:=step 0 _ (by omega) hy (by rw [fD a i (by omega),fD a (i+1) (by omega)];omega) (dF RR b i hib) (fun h=>by omega)
    rw [Int.add_zero] at q1
    refine ⟨r,?_,q2⟩
    refine Ev.step (fun k=>by rw [aC.l0]) ?_
    refine evn (by omega) (evp (by omega) ?_)
    refine Ev.step (fun k=>by rw [aC.j1]) ?_
    rw [w64 (x:=c+rd b i) (by omega) (by omega),fS (x:=c+rd b i) (by omega),fH (x:=c+rd b i) (by omega),w64 (x:=(c+rd b i) / 10000) (by omega) (by omega),iC (i:=i) (by omega)]
    exact evp rfl (evn (by omega) (evp (by omega) (evp (by omega) (evp (by omega) q1))))
   ·rw [fD a i (by omega),fD b i (by omega),ha.2.2,hb.2.2] at h8
    by_cases hc:c=0
    ·subst hc
     rw [Int.zero_mul,Int.add_zero] at h8
     refine ⟨o,?_,⟨h4,?_,h8⟩,by omega⟩
     ·refine Ev.step (fun k=>by rw [aC.l0]) ?_
      refine evn (by omega) (evn (by omega) ?_)
      refine Ev.step (fun k=>by rw [aC.j1]) ?_
      exact evn (by simp) (evs _)
     ·by_cases hi0:i=0
      ·have:o=[]:=List.eq_nil_of_length_eq_zero (by omega)
       rw [this]
       exact Nm.nil
      ·refine An bj h4 ?_
       rw [h8,h3]
       have hna:=ha.gu bj
       have hnb:=hb.gu bj
       by_cases hge:b.length≤a.length
       ·have:=ha.ge bj (by omega)
        have h9:=eY (B:=RR) (by have:=eI;omega) (show i-1≤a.length-1 by omega)
        omega
       ·have:=hb.ge bj (by omega)
        have h9:=eY (B:=RR) (by have:=eI;omega) (show i-1≤b.length-1 by omega)
        omega
    ·have hc1:c=1:=by omega
     subst hc1
     have him:i≤max a.length b.length:=by
      rcases Nat.lt_or_ge (max a.length b.length) i with h | h
      ·have:=(h7 h).1
       omega
      ·exact h
     have hvo:=bV bj h4
     obtain ⟨r,q1,q2⟩:=step 0 0 (by omega) (by omega) (by rw [fD a i (by omega),fD a (i+1) (by omega)];omega) (by rw [fD b i (by omega),fD b (i+1) (by omega)];omega)
      (fun h=>⟨by omega,by rw [show max a.length b.length=i by omega];omega⟩)
     refine ⟨r,?_,q2⟩
     refine Ev.step (fun k=>by rw [aC.l0]) ?_
     refine evn (by omega) (evn (by omega) ?_)
     refine Ev.step (fun k=>by rw [aC.j1]) ?_
     rw [iC (i:=i) (by omega),show Int.tmod 1 10000=(1+0+0) % 10000 by decide,show wrap64 (Int.tdiv 1 10000)=(1+0+0) / 10000 by decide +kernel]
     exact evp (by simp) (evn (by omega) (evn (by omega) (evp (by omega) q1)))
theorem r_Add_sp {a b:List Int} {n m:Int} (hn:a.length+b.length<68719476736) (ha:Can RR a n) (hb:Can RR b m):∃ r,Ev (fun k=>aC.f k a b) r∧Can RR r (n+m)∧r.length≤max a.length b.length+1:=by
 obtain ⟨r,h1,h2⟩:=r_Add_ev hn ha hb (max a.length b.length+1) 0 [] 0 (by omega) (by omega) rfl (Dg.nil _) (by omega) (by omega) (fun h=>by omega) (by simp [vl])
 exact ⟨r,Ev.congr (fun k=>by rw [aC.f];rfl) h1,h2⟩
end Go.Proofs.YtjimdhlmeebjeaaGreat.P
end
section
namespace Go.Proofs.YtjimdhlmeebjeaaGreat.P
open Go.RowKit Go.Proofs.YtjimdhlmeebjeaaGreatW.PrintWords Go.Proofs.YtjimdhlmeebjeaaGreatW.PrintLast Go.Proofs.YtjimdhlmeebjeaaGreatW.PrintMore
set_option linter.unusedVariables false
theorem gC (l:List Int) (i:Nat) (v:Int):(l.set i v).drop (i+1)=l.drop (i+1):=by rw [List.drop_set_of_lt (by omega)]
theorem kh (a o:List Int) (i:Nat) (h:o.drop i=a.drop i) (hi:i<a.length) (hl:o.length=a.length):rd o i=rd a i:=by
 rw [pG o i (by omega),pG a i hi]
 have h1:(o.drop i)[0]?=(a.drop i)[0]?:=by rw [h]
 rw [List.getElem?_drop,List.getElem?_drop,Nat.add_zero,List.getElem?_eq_getElem (by omega),List.getElem?_eq_getElem hi] at h1
 exact Option.some.inj h1
theorem drop_tail (a o:List Int) (i:Nat) (h:o.drop i=a.drop i):o.drop (i+1)=a.drop (i+1):=by
 rw [← List.drop_drop,← List.drop_drop,h]
theorem r_Sub_ev {a b:List Int} (hba:b.length≤a.length) (hle:vl RR b≤vl RR a) (hn:a.length<68719476736) (ha:Dg RR a) (hb:Dg RR b) (d:Nat) :
 ∀ (i:Nat) (o:List Int) (c:Int),a.length-i=d→i≤a.length→o.length=a.length→o.drop i=a.drop i→Dg RR (o.take i)→0≤c→c≤1→vl RR (o.take i)-c*RR ^ i=vl RR (a.take i)-vl RR (b.take i) →
 ∃ r,Ev (fun k=>aJ.l0 k b o c (a.length:Int) (i:Int)) r∧Can RR r (vl RR a-vl RR b)∧r.length≤a.length:=by
 induction d with
 | zero =>
  intro i o c h1 h2 h3 hdr h4 h5 h6 h7
  have e:i=a.length:=by omega
  subst e
  rw [List.take_length,List.take_of_length_le hba,← h3,List.take_length] at h7
  rw [← h3,List.take_length] at h4
  have hlt:=iR bj h4
  have hc:c=0:=by
   rcases Int.lt_or_eq_of_le h6 with h | h
   ·omega
   ·subst h
    rw [Int.one_mul] at h7
    omega
  subst hc
  rw [Int.zero_mul,Int.sub_zero] at h7
  obtain ⟨r,h8,h9,h10⟩:=lW (l:=o) (by omega) h4
  refine ⟨r,?_,by rw [← h7];exact h9,by omega⟩
  refine Ev.step (fun k=>by rw [aJ.l0]) ?_
  refine evn (by omega) ?_
  exact Ev.bind h8 (evs _)
 | succ d ih =>
  intro i o c h1 h2 h3 hdr h4 h5 h6 h7
  have hi:i<a.length:=by omega
  have hx:=dZ ha (i:Int) (by omega) (by omega)
  rw [e9] at hx
  have hro:=kh a o i hdr hi h3
  have ti:=dF RR a i hi
  have ep:RR ^ (i+1)=RR*RR ^ i:=by rw [Int.pow_succ,Int.mul_comm]
  have hdt:=drop_tail a o i hdr
  by_cases hib:i<b.length
  ·have hy:=dZ hb (i:Int) (by omega) (by omega)
   rw [e9] at hy
   have tb:=dF RR b i hib
   by_cases hneg:rd a i-c-rd b i<0
   ·obtain ⟨r,h8,h9⟩:=ih (i+1) (o.set i (rd a i-c-rd b i+10000)) 1 (by omega) (by omega) (by simpa using h3) (by rw [gC,hdt]) (Dg.take_set (by omega) h4 (by omega) (by rw [e9];omega)) (by omega) (by omega)
     (by rw [iQ _ _ _ _ (by omega),ti,tb,ep];exact zy h7 (by rw [e9];omega))
    refine ⟨r,?_,h9⟩
    refine Ev.step (fun k=>by rw [aJ.l0]) ?_
    rw [hro,w64 (x:=rd a i-c) (by omega) (by omega),w64 (x:=rd a i-c-rd b i) (by omega) (by omega),w64 (x:=rd a i-c-rd b i+10000) (by omega) (by omega),iC (i:=i) (by omega)]
    exact evp (by omega) (evp (by omega) (evp (by omega) (evp (by omega) (evp hneg h8))))
   ·obtain ⟨r,h8,h9⟩:=ih (i+1) (o.set i (rd a i-c-rd b i)) 0 (by omega) (by omega) (by simpa using h3) (by rw [gC,hdt]) (Dg.take_set (by omega) h4 (by omega) (by rw [e9];omega)) (by omega) (by omega)
     (by rw [iQ _ _ _ _ (by omega),ti,tb,ep];exact zy h7 (by rw [e9];omega))
    refine ⟨r,?_,h9⟩
    refine Ev.step (fun k=>by rw [aJ.l0]) ?_
    rw [hro,w64 (x:=rd a i-c) (by omega) (by omega),w64 (x:=rd a i-c-rd b i) (by omega) (by omega),iC (i:=i) (by omega)]
    exact evp (by omega) (evp (by omega) (evp (by omega) (evp (by omega) (evn hneg h8))))
  ·have tb:vl RR (b.take (i+1))=vl RR (b.take i):=by rw [List.take_of_length_le (by omega),List.take_of_length_le (by omega)]
   by_cases hneg:rd a i-c<0
   ·obtain ⟨r,h8,h9⟩:=ih (i+1) (o.set i (rd a i-c+10000)) 1 (by omega) (by omega) (by simpa using h3) (by rw [gC,hdt]) (Dg.take_set (by omega) h4 (by omega) (by rw [e9];omega)) (by omega) (by omega)
     (by rw [iQ _ _ _ _ (by omega),ti,tb,ep];exact wj h7 (by rw [e9];omega))
    refine ⟨r,?_,h9⟩
    refine Ev.step (fun k=>by rw [aJ.l0]) ?_
    rw [hro,w64 (x:=rd a i-c) (by omega) (by omega),w64 (x:=rd a i-c+10000) (by omega) (by omega),iC (i:=i) (by omega)]
    exact evp (by omega) (evp (by omega) (evp (by omega) (evn (by omega) (evp hneg h8))))
   ·obtain ⟨r,h8,h9⟩:=ih (i+1) (o.set i (rd a i-c)) 0 (by omega) (by omega) (by simpa using h3) (by rw [gC,hdt]) (Dg.take_set (by omega) h4 (by omega) (by rw [e9];omega)) (by omega) (by omega)
     (by rw [iQ _ _ _ _ (by omega),ti,tb,ep];exact wj h7 (by rw [e9];omega))
    refine ⟨r,?_,h9⟩
    refine Ev.step (fun k=>by rw [aJ.l0]) ?_
    rw [hro,w64 (x:=rd a i-c) (by omega) (by omega),iC (i:=i) (by omega)]
    exact evp (by omega) (evp (by omega) (evp (by omega) (evn (by omega) (evn hneg h8))))
theorem jO {a b:List Int} {n m:Int} (ha:Can RR a n) (hb:Can RR b m) (h:m≤n):b.length≤a.length:=by
 rcases Nat.lt_or_ge a.length b.length with hl | hl
 ·have:=Can.uH eI ha hb hl
  omega
 ·exact hl
theorem BO {l:List Int} (h:l.length<17592186044416):cV.f l=some l:=by
 unfold cV.f
 simp [h]
theorem Ab {a b:List Int} {n m:Int} (hn:a.length<68719476736) (ha:Can RR a n) (hb:Can RR b m) (hle:m≤n):∃ r,Ev (fun k=>aJ.f k a b) r∧Can RR r (n-m)∧r.length≤a.length:=by
 have hba:=jO ha hb hle
 rw [← ha.2.2,← hb.2.2] at *
 obtain ⟨r,h1,h2⟩:=r_Sub_ev hba hle hn ha.1 hb.1 a.length 0 a 0 (by omega) (by omega) rfl rfl (by simp;exact Dg.nil _) (by omega) (by omega) (by simp [vl])
 refine ⟨r,?_,h2⟩
 unfold aJ.f
 exact evb (BO (by omega)) h1
theorem tU (B:Int) (l:List Int) (p:Nat) (v:Int) (h:p<l.length):vl B (l.set p v)=vl B l+(v-rd l (p:Int))*B ^ p:=by
 have h1:=tT B l p l.length v h (Nat.le_refl _)
 rwa [List.take_of_length_le (by simp),List.take_length] at h1
theorem E9 {T c P V old v c' W:Int} (h:T+c*P=V) (h2:v+W*c'=c+old):(T+(v-old)*P)+c'*(W*P)=V:=by grind
theorem r_Mul_c {a b:List Int} {V:Int} (hn:a.length+b.length<68719476736) (hV:V<RR ^ (a.length+b.length)) (s:Int) (R:List Int)
 (hout:∀ o:List Int,o.length=a.length+b.length+1→Dg RR o→vl RR o=V→Ev (fun k=>aq.l0 k b o a (a.length:Int) (wrap64 (s+1))) R) (d:Nat) :
 ∀ (p:Nat) (o:List Int) (c:Int),a.length+b.length+1-p=d→p≤a.length+b.length+1→o.length=a.length+b.length+1→Dg RR o→0≤c→c<10000→vl RR o+c*RR ^ p=V →
 Ev (fun k=>aq.l2 k b o c (p:Int) a (a.length:Int) s) R:=by
 induction d with
 | zero =>
  intro p o c h1 h2 h3 h4 h5 h6 h7
  have hvo:=bV bj h4
  have hc:c=0:=by
   rcases Int.lt_or_eq_of_le h5 with h | h
   ·have h8:=eY (B:=RR) (by have:=eI;omega) (show a.length+b.length≤p by omega)
    have h9:1*RR ^ p≤c*RR ^ p:=Int.mul_le_mul_of_nonneg_right (by omega) (Int.le_of_lt (Int.pow_pos bj))
    omega
   ·omega
  subst hc
  rw [Int.zero_mul,Int.add_zero] at h7
  refine Ev.step (fun k=>by rw [aq.l2]) ?_
  exact evn (by omega) (hout o h3 h4 h7)
 | succ d ih =>
  intro p o c h1 h2 h3 h4 h5 h6 h7
  by_cases hc:c=0
  ·subst hc
   rw [Int.zero_mul,Int.add_zero] at h7
   refine Ev.step (fun k=>by rw [aq.l2]) ?_
   exact evn (by omega) (hout o h3 h4 h7)
  ·have ho:=dZ h4 (p:Int) (by omega) (by omega)
   rw [e9] at ho
   have h8:=ih (p+1) (o.set p ((c+rd o p) % 10000)) ((c+rd o p) / 10000) (by omega) (by omega) (by simpa using h3) (h4.set _ (by omega) (by rw [e9];omega)) (by omega) (by omega)
    (by rw [tU _ _ _ _ (by omega),Int.pow_succ,Int.mul_comm (RR ^ p) RR];exact E9 h7 (by rw [e9];omega))
   refine Ev.step (fun k=>by rw [aq.l2]) ?_
   rw [w64 (x:=c+rd o p) (by omega) (by omega),fS (x:=c+rd o p) (by omega),fH (x:=c+rd o p) (by omega),w64 (x:=(c+rd o p) / 10000) (by omega) (by omega),iC (i:=p) (by omega),Int.toNat_natCast]
   exact evp (by omega) (evp (by omega) (evp (by omega) h8))
theorem mul_bd4 {x y:Int} (hx:0≤x∧x<10000) (hy:0≤y∧y<10000):0≤x*y∧x*y≤99980001:=by
 have h1:0≤x*y:=Int.mul_nonneg hx.1 hy.1
 have h2:x*y≤9999*9999:=Int.mul_le_mul (by omega) (by omega) hy.1 (by omega)
 omega
theorem alg_rmul {T va vb x y old P c c' v W xb Pi Pj:Int} (h:T+c*P=va*vb+x*Pi*xb) (h2:v+W*c'=c+(old+x*y)) (hP:P=Pi*Pj):(T+(v-old)*P)+c'*(W*P)=va*vb+x*Pi*(xb+y*Pj):=by grind
theorem r_Mul_in {a b:List Int} (hn:a.length+b.length<68719476736) (ha:Dg RR a) (hb:Dg RR b) (i:Nat) (hi:i<a.length) (R:List Int)
 (hout:∀ o:List Int,o.length=a.length+b.length+1→Dg RR o→vl RR o=vl RR (a.take (i+1))*vl RR b→Ev (fun k=>aq.l0 k b o a (a.length:Int) ((i+1:Nat):Int)) R) (d:Nat) :
 ∀ (j:Nat) (o:List Int) (c:Int),b.length-j=d→j≤b.length→o.length=a.length+b.length+1→Dg RR o→0≤c→c<10000 →
 vl RR o+c*RR ^ (i+j)=vl RR (a.take i)*vl RR b+rd a i*RR ^ i*vl RR (b.take j) →
 Ev (fun k=>aq.l1 k b o (i:Int) (rd a i) c a (a.length:Int) (i:Int) b (b.length:Int) (j:Int)) R:=by
 have hx:=dZ ha (i:Int) (by omega) (by omega)
 rw [e9] at hx
 induction d with
 | zero =>
  intro j o c h1 h2 h3 h4 h5 h6 h7
  have e:j=b.length:=by omega
  subst e
  rw [List.take_length] at h7
  have h8:=Bb h7
  rw [← dF RR a i hi] at h8
  have hlt:vl RR (a.take (i+1))*vl RR b<RR ^ (a.length+b.length):=by
   rw [Int.pow_add]
   have q1:=iR bj (ha.take (i+1))
   have q2:=eY (B:=RR) (by have:=eI;omega) (show (a.take (i+1)).length≤a.length by rw [List.length_take];omega)
   exact yY (by omega) (iR bj hb) (bV bj (ha.take _)) (bV bj hb)
  have h9:=r_Mul_c (a:=a) (b:=b) (V:=vl RR (a.take (i+1))*vl RR b) hn hlt (i:Int) R (fun o' q1 q2 q3=>by rw [iC (i:=i) (by omega)];exact hout o' q1 q2 q3) (a.length+b.length+1-(i+b.length)) (i+b.length) o c rfl (by omega) h3 h4 h5 h6 h8
  have ei:((i:Int)+(b.length:Int))=((i+b.length:Nat):Int):=by omega
  refine Ev.step (fun k=>by rw [aq.l1]) ?_
  rw [ei,w64 (x:=((i+b.length:Nat):Int)) (by omega) (by omega)]
  exact evn (by omega) h9
 | succ d ih =>
  intro j o c h1 h2 h3 h4 h5 h6 h7
  have hy:=dZ hb (j:Int) (by omega) (by omega)
  have ho:=dZ h4 ((i+j:Nat):Int) (by omega) (by omega)
  rw [e9] at hy ho
  have hm:=mul_bd4 hx hy
  have h8:=ih (j+1) (o.set (i+j) ((c+(rd o ((i+j:Nat):Int)+rd a i*rd b j)) % 10000)) ((c+(rd o ((i+j:Nat):Int)+rd a i*rd b j)) / 10000) (by omega) (by omega) (by simpa using h3) (h4.set _ (by omega) (by rw [e9];omega)) (by omega) (by omega)
   (by
    rw [tU _ _ _ _ (by omega),dF RR b j (by omega),show i+(j+1)=i+j+1 by omega,Int.pow_succ,Int.mul_comm (RR ^ (i+j)) RR]
    exact alg_rmul h7 (by rw [e9];omega) (Int.pow_add _ _ _))
  have ei:((i:Int)+(j:Int))=((i+j:Nat):Int):=by omega
  refine Ev.step (fun k=>by rw [aq.l1]) ?_
  rw [ei,w64 (x:=((i+j:Nat):Int)) (by omega) (by omega),w64 (x:=rd a i*rd b j) (by omega) (by omega),w64 (x:=rd o ((i+j:Nat):Int)+rd a i*rd b j) (by omega) (by omega),w64 (x:=c+(rd o ((i+j:Nat):Int)+rd a i*rd b j)) (by omega) (by omega),
   fS (x:=c+(rd o ((i+j:Nat):Int)+rd a i*rd b j)) (by omega),fH (x:=c+(rd o ((i+j:Nat):Int)+rd a i*rd b j)) (by omega),w64 (x:=(c+(rd o ((i+j:Nat):Int)+rd a i*rd b j)) / 10000) (by omega) (by omega),iC (i:=j) (by omega),Int.toNat_natCast]
  exact evp (by omega) (evp (by omega) (evp (by omega) (evp (by omega) (evp (by omega) h8))))
theorem Dq {a b:List Int} (hn:a.length+b.length<68719476736) (ha:Dg RR a) (hb:Dg RR b):∃ R,Can RR R (vl RR a*vl RR b)∧R.length≤a.length+b.length∧∀ (d i:Nat) (o:List Int),a.length-i=d→i≤a.length→o.length=a.length+b.length+1→Dg RR o→vl RR o=vl RR (a.take i)*vl RR b →
 Ev (fun k=>aq.l0 k b o a (a.length:Int) (i:Int)) R:=by
 have hnn:0≤vl RR a*vl RR b:=Int.mul_nonneg (bV bj ha) (bV bj hb)
 obtain ⟨R,hR⟩:=can_ex eI hnn
 have hRl:R.length≤a.length+b.length:=by
  refine hR.fm eI ?_
  rw [Int.pow_add]
  exact yY (iR bj ha) (iR bj hb) (bV bj ha) (bV bj hb)
 refine ⟨R,hR,hRl,?_⟩
 intro d
 induction d with
 | zero =>
  intro i o h1 h2 h3 h4 h5
  have e:i=a.length:=by omega
  subst e
  rw [List.take_length] at h5
  obtain ⟨r,h8,h9,h10⟩:=lW (l:=o) (by omega) h4
  rw [h5] at h9
  rw [bS bj hR h9]
  refine Ev.step (fun k=>by rw [aq.l0]) ?_
  exact evn (by omega) (Ev.bind h8 (evs _))
 | succ d ih =>
  intro i o h1 h2 h3 h4 h5
  have h6:=r_Mul_in hn ha hb i (by omega) R (fun o' q1 q2 q3=>ih (i+1) o' (by omega) (by omega) q1 q2 q3) b.length 0 o 0 (by omega) (by omega) h3 h4 (by omega) (by omega) (by rw [h5];simp [vl])
  refine Ev.step (fun k=>by rw [aq.l0]) ?_
  exact evp (by omega) (evp (by omega) (evp (by omega) h6))
theorem r_Mul_sp {a b:List Int} {n m:Int} (hn:a.length+b.length<68719476736) (ha:Can RR a n) (hb:Can RR b m):∃ r,Ev (fun k=>aq.f k a b) r∧Can RR r (n*m)∧r.length≤a.length+b.length:=by
 obtain ⟨R,h1,h2,h3⟩:=Dq hn ha.1 hb.1
 rw [ha.2.2,hb.2.2] at h1
 refine ⟨R,?_,h1,h2⟩
 have h4:=h3 a.length 0 (List.replicate (a.length+b.length+1) 0) (by omega) (by omega) (by simp) (Dg.rep bj _) (by simp [vl,zF])
 unfold aq.f
 have e:(a.length:Int)+(b.length:Int)=((a.length+b.length:Nat):Int):=by omega
 rw [e,w64 (x:=((a.length+b.length:Nat):Int)) (by omega) (by omega),iC (i:=a.length+b.length) (by omega),Int.toNat_natCast]
 exact evp (by omega) (evp (by omega) h4)
end Go.Proofs.YtjimdhlmeebjeaaGreat.P
end
section
namespace Go.Proofs.YtjimdhlmeebjeaaGreat.P
open Go.RowKit Go.Proofs.YtjimdhlmeebjeaaGreatW.PrintWords Go.Proofs.YtjimdhlmeebjeaaGreatW.PrintLast Go.Proofs.YtjimdhlmeebjeaaGreatW.PrintMore
set_option linter.unusedVariables false
theorem mD (l:List Int) (x:Int) (h:l++[x]≠[]):(l++[x]).getLast h=x:=by simp
theorem e8 (l:List Int) (i:Nat) (v:Int) (h:i<l.length):(l.set i v).drop i=v :: l.drop (i+1):=by
 rw [List.drop_eq_getElem_cons (by simpa using h),List.getElem_set_self,gC]
theorem fI (l:List Int) (i:Nat) (h:i<l.length):l.drop i=rd l i :: l.drop (i+1):=by
 rw [pG l i h]
 exact List.drop_eq_getElem_cons h
theorem E6 {t r va q rr d R K:Int} (h:t*K+r=va) (h2:q*K+rr=r*R+d):(q+R*t)*K+rr=d+R*va:=by grind
theorem BL {a:List Int} (hn:a.length<68719476736) (ha:Dg RR a) {K:Int} (hK:1≤K∧K≤65536) (d:Nat):∀ (i:Nat) (o:List Int) (r:Int),i=d→i≤a.length→o.length=a.length→Dg RR (o.drop i)→0≤r→r<K→vl RR (o.drop i)*K+r=vl RR (a.drop i) →
 ∃ q z,Ev (fun k=>ba.l0 k a K o r ((i:Int)-1)) (q,z)∧(∃ m,Can RR q m∧m*K+z=vl RR a)∧0≤z∧z<K∧q.length≤a.length:=by
 induction d with
 | zero =>
  rintro i o r rfl h1 h2 h3 h4 h5 h6
  rw [List.drop_zero] at h3 h6
  rw [List.drop_zero] at h6
  obtain ⟨q,h7,h8,h9⟩:=lW (l:=o) (by omega) h3
  refine ⟨q,r,?_,⟨_,h8,h6⟩,h4,h5,by omega⟩
  refine Ev.step (fun k=>by rw [ba.l0]) ?_
  exact evn (by omega) (Ev.bind h7 (evs _))
 | succ d ih =>
  rintro i o r rfl h1 h2 h3 h4 h5 h6
  have e1:(((d+1:Nat):Int)-1)=(d:Int):=by omega
  have hx:=dZ ha (d:Int) (by omega) (by omega)
  rw [e9] at hx
  have hv0:0≤r*10000+rd a d:=by omega
  have hq0:0≤(r*10000+rd a d) / K:=Int.ediv_nonneg hv0 (by omega)
  have hq1:(r*10000+rd a d) / K<10000:=by
   refine Int.ediv_lt_of_lt_mul (by omega) ?_
   have:(r+1)*10000≤K*10000:=Int.mul_le_mul_of_nonneg_right (by omega) (by omega)
   omega
  have hm0:=Int.emod_nonneg (r*10000+rd a d) (show K≠0 by omega)
  have hm1:=Int.emod_lt_of_pos (r*10000+rd a d) (show 0<K by omega)
  have hdv:(r*10000+rd a d) / K*K+(r*10000+rd a d) % K=r*RR+rd a d:=by rw [e9];exact Int.ediv_mul_add_emod _ _
  obtain ⟨q,z,h7,h8⟩:=ih d (o.set d ((r*10000+rd a d) / K)) ((r*10000+rd a d) % K) rfl (by omega) (by simpa using h2)
   (by rw [e8 _ _ _ (by omega)];exact Dg.mk hq0 (by rw [e9];exact hq1) h3) hm0 hm1
   (by rw [e8 _ _ _ (by omega),fI a d (by omega),vl,vl];exact E6 h6 hdv)
  refine ⟨q,z,?_,h8⟩
  refine Ev.step (fun k=>by rw [ba.l0]) ?_
  rw [e1,w64 (x:=r*10000) (by omega) (by omega),w64 (x:=r*10000+rd a d) (by omega) (by omega),fH hv0,fS hv0,w64 (x:=(r*10000+rd a d) / K) (by omega) (by omega),w64 (x:=(d:Int)-1) (by omega) (by omega),Int.toNat_natCast]
  exact evp (by omega) (evp (by omega) (evp (by omega) (evn (by omega) (evp (by omega) h7))))
theorem uk {a:List Int} {n K:Int} (hn:a.length<68719476736) (ha:Can RR a n) (hK:1≤K∧K≤65536):∃ q,Ev (fun k=>ba.f k a K) (q,n % K)∧Can RR q (n / K)∧q.length≤a.length:=by
 obtain ⟨q,z,h1,⟨m,h2,h3⟩,h4,h5,h6⟩:=BL hn ha.1 hK a.length a.length (List.replicate a.length 0) 0 rfl (Nat.le_refl _) (by simp) (by rw [List.drop_of_length_le (by simp)];exact Dg.nil _) (by omega) (by omega) (by rw [List.drop_of_length_le (by simp),List.drop_of_length_le (by simp)];simp [vl])
 rw [ha.2.2] at h3
 have e1:n % K=z:=by rw [← h3,Int.add_comm,Int.add_mul_emod_self_right,Int.emod_eq_of_lt h4 h5]
 have e2:n / K=m:=by
  have h7:=Int.ediv_mul_add_emod n K
  rw [e1] at h7
  exact Int.eq_of_mul_eq_mul_right (a:=K) (by omega) (by omega)
 rw [e1,e2]
 refine ⟨q,?_,h2,h6⟩
 unfold ba.f
 rw [Int.toNat_natCast,w64 (by omega) (by omega)]
 exact evp (by omega) (evp (by omega) h1)
abbrev HH:Int:=65536
theorem Fg:HH=65536:=rfl
theorem vl2 (h:List Int) (i:Nat) (hi:i+1<h.length):vl HH (h.drop i)=rd h i+65536*rd h ((i+1:Nat):Int)+WW*vl HH (h.drop (i+2)):=by
 rw [fI h i (by omega),vl,fI h (i+1) hi,vl,dx,Fg,show i+1+1=i+2 from rfl]
 omega
theorem vl1 (h:List Int) (i:Nat) (hi:i+1=h.length):vl HH (h.drop i)=rd h i:=by
 rw [fI h i (by omega),vl,List.drop_of_length_le (by omega)]
 simp [vl]
theorem alg_w {vo P x w V W T:Int} (h:vo+P*T=V) (h2:T=w+W*x):(vo+w*P)+(W*P)*x=V:=by grind
theorem yC {h:List Int} (hn:h.length<68719476736) (hd:Dg HH h) (hnm:Nm h) (n:Int) (d:Nat):∀ (i:Nat) (o:List Int),h.length-i=d→i=2*o.length→Dg WW o→(h.length≤i→Nm o)→vl WW o+WW ^ o.length*vl HH (h.drop i)=n →
 ∃ r,Ev (fun k=>aF.l1 k h o (i:Int)) r∧Can WW r n:=by
 induction d using Nat.strongRecOn with
 | _ d ih =>
  intro i o h1 h2 h3 h4 h5
  by_cases hi:i<h.length
  ·have hx:=dZ hd (i:Int) (by omega) (by omega)
   rw [Fg] at hx
   have ei2:(i:Int)+2=((i+2:Nat):Int):=by omega
   by_cases hi1:i+1<h.length
   ·have hy:=dZ hd ((i+1:Nat):Int) (by omega) (by omega)
    rw [Fg] at hy
    have hl:i+2=h.length→rd h ((i+1:Nat):Int)≠0:=by
     intro he
     have h6:=hnm.rd (by omega)
     rw [show (h.length:Int)-1=((i+1:Nat):Int) by omega] at h6
     exact h6
    obtain ⟨r,h7,h8⟩:=ih (h.length-(i+2)) (by omega) (i+2) (o++[rd h i+65536*rd h ((i+1:Nat):Int)]) rfl (by simp;omega) (h3.append (Dg.mk (by omega) (by rw [dx];omega) (Dg.nil _)))
     (by
      intro hle hne
      rw [mD]
      have:=hl (by omega)
      omega)
     (by rw [nI,List.length_append,List.length_singleton,Int.pow_succ,Int.mul_comm (WW ^ o.length) WW];exact alg_w h5 (vl2 h i hi1))
    refine ⟨r,?_,h8⟩
    refine Ev.step (fun k=>by rw [aF.l1]) ?_
    have ew:(rd h i % 4294967296+rd h ((i+1:Nat):Int) % 4294967296*65536 % 4294967296) % 4294967296=rd h i+65536*rd h ((i+1:Nat):Int):=by omega
    rw [iC (i:=i) (by omega),ew,ei2,w64 (x:=((i+2:Nat):Int)) (by omega) (by omega)]
    exact evp (by omega) (evp (by omega) (evp (by omega) (evp (by omega) (evp (by omega) h7))))
   ·have hl:rd h (i:Int)≠0:=by
     have h6:=hnm.rd (by omega)
     rw [show (h.length:Int)-1=(i:Int) by omega] at h6
     exact h6
    obtain ⟨r,h7,h8⟩:=ih (h.length-(i+2)) (by omega) (i+2) (o++[rd h i]) rfl (by simp;omega) (h3.append (Dg.mk (by omega) (by rw [dx];omega) (Dg.nil _)))
     (by
      intro hle hne
      rw [mD]
      exact hl)
     (by
      rw [nI,List.length_append,List.length_singleton,Int.pow_succ,Int.mul_comm (WW ^ o.length) WW]
      refine alg_w (T:=vl HH (h.drop i)) h5 ?_
      rw [vl1 h i (by omega),List.drop_of_length_le (by omega)]
      simp [vl])
    refine ⟨r,?_,h8⟩
    refine Ev.step (fun k=>by rw [aF.l1]) ?_
    have ew:rd h i % 4294967296=rd h i:=by omega
    rw [iC (i:=i) (by omega),ew,ei2,w64 (x:=((i+2:Nat):Int)) (by omega) (by omega)]
    exact evp (by omega) (evp (by omega) (evn (by omega) (evp (by omega) h7)))
  ·rw [List.drop_of_length_le (by omega)] at h5
   refine ⟨o,?_,h3,h4 (by omega),by simpa [vl] using h5⟩
   refine Ev.step (fun k=>by rw [aF.l1]) ?_
   exact evn (by omega) (evs _)
theorem alg_h {vh P m q r K n:Int} (h:vh+m*P=n) (h2:q*K+r=m):(vh+r*P)+q*(K*P)=n:=by grind
theorem BJ (n:Int) (c:Nat):∀ (a h:List Int) (m:Int),m.toNat=c→Can RR a m→a.length+h.length<17179869184→h.length+4*a.length<17179869184→Dg HH h→(m=0→Nm h)→vl HH h+m*HH ^ h.length=n→(∀ a':List Int,a'.length≤a.length→True) →
 ∃ r,Ev (fun k=>aF.l0 k a h) r∧Can WW r n:=by
 induction c using Nat.strongRecOn with
 | _ c ih =>
  intro a h m hm ha hl hl2 hd hnm hv _
  have hm0:=ha.gu bj
  by_cases hz:m=0
  ·have e:a=[]:=(ha.yW bj).2 hz
   subst hz
   subst e
   rw [Int.zero_mul,Int.add_zero] at hv
   obtain ⟨r,h1,h2⟩:=yC (by omega) hd (hnm rfl) n h.length 0 [] (by omega) rfl (Dg.nil _) (fun _=>Nm.nil) (by simpa [vl] using hv)
   refine ⟨r,?_,h2⟩
   refine Ev.step (fun k=>by rw [aF.l0]) ?_
   exact evn (by simp) h1
  ·have hal:a.length≠0:=fun h0=>hz ((ha.ji bj).1 h0)
   obtain ⟨q,h1,h2,h3⟩:=uk (K:=65536) (by omega) ha (by omega)
   have hq:q.length+1≤a.length:=by
    have h4:=ha.lt bj
    have h5:m / 65536<RR ^ (a.length-1):=by
     have h6:RR ^ a.length=RR ^ (a.length-1)*RR:=by
      conv=>lhs;rw [show a.length=a.length-1+1 by omega,Int.pow_succ]
     rw [h6,e9] at h4
     rw [e9]
     omega
    have:=h2.fm eI h5
    omega
   obtain ⟨r,h7,h8⟩:=ih (m / 65536).toNat (by omega) q (h++[m % 65536]) (m / 65536) rfl h2 (by simp;omega) (by simp;omega) (hd.append (Dg.mk (by omega) (by rw [Fg];omega) (Dg.nil _)))
    (by
     intro hz2 hne
     rw [mD]
     omega)
    (by rw [nI,List.length_append,List.length_singleton,Int.pow_succ,Int.mul_comm (HH ^ h.length) HH];exact alg_h hv (by rw [Fg];omega)) (fun _ _=>trivial)
   refine ⟨r,?_,h8⟩
   refine Ev.step (fun k=>by rw [aF.l0]) ?_
   exact evp (by omega) (Ev.bind h1 (evp (by omega) h7))
theorem BI {a:List Int} {n:Int} (hn:a.length<1073741824) (ha:Can RR a n):∃ r,Ev (fun k=>aF.f k a) r∧Can WW r n:=by
 obtain ⟨r,h1,h2⟩:=BJ n n.toNat a [] n rfl ha (by simp;omega) (by simp;omega) (Dg.nil _) (fun _=>Nm.nil) (by simp [vl]) (fun _ _=>trivial)
 exact ⟨r,Ev.congr (fun k=>by rw [aF.f]) h1,h2⟩
end Go.Proofs.YtjimdhlmeebjeaaGreat.P
end
section
namespace Go.Proofs.YtjimdhlmeebjeaaGreat.P
open Go.RowKit Go.Proofs.YtjimdhlmeebjeaaGreatW.PrintWords Go.Proofs.YtjimdhlmeebjeaaGreatW.PrintLast Go.Proofs.YtjimdhlmeebjeaaGreatW.PrintMore
set_option linter.unusedVariables false
theorem Ak (k:IntKind) (a b:Int):Go.bits .or k a b=Go.bits .or k b a:=by
 simp only [Go.bits]
 rw [BitVec.or_comm]
theorem or64 {h x:Int} (hh:0≤h∧h<4294967296) (hx:0≤x∧x<4294967296):Go.bits .or .u64 (h*4294967296) x=h*4294967296+x :=
 bits_join .u64 64 (by decide) (fun n h0 h1=>by rw [IntKind.wrap_u64];omega) 32 _ _ (by omega) (by omega) (by omega) hx.1 (by omega) (by omega)
theorem or64' {h x:Int} (hh:0≤h∧h<4294967296) (hx:0≤x∧x<4294967296):Go.bits .or .u64 x (h*4294967296)=h*4294967296+x:=by
 rw [Ak,or64 hh hx]
theorem alg_dw {t r va q rr d R K:Int} (h:t*K+r=va) (h2:q*K+rr=r*R+d):(q+R*t)*K+rr=d+R*va:=by grind
theorem tQ {a:List Int} (hn:a.length<68719476736) (ha:Dg WW a) {K:Int} (hK:1≤K∧K<4294967296) (d:Nat):∀ (i:Nat) (o:List Int) (r:Int),i=d→i≤a.length→o.length=a.length→Dg WW (o.drop i)→0≤r→r<K→vl WW (o.drop i)*K+r=vl WW (a.drop i) →
 ∃ q z,Ev (fun k=>di.l0 k a K o r ((i:Int)-1)) (q,z)∧(∃ m,Can WW q m∧m*K+z=vl WW a)∧0≤z∧z<K∧q.length≤a.length:=by
 induction d with
 | zero =>
  rintro i o r rfl h1 h2 h3 h4 h5 h6
  rw [List.drop_zero] at h3 h6
  rw [List.drop_zero] at h6
  obtain ⟨q,h7,h8,h9⟩:=fx (l:=o) (by omega) h3
  have er:r % 4294967296=r:=by omega
  refine ⟨q,r,?_,⟨_,h8,h6⟩,h4,h5,by omega⟩
  refine Ev.step (fun k=>by rw [di.l0]) ?_
  rw [er]
  exact evn (by omega) (Ev.bind h7 (evs _))
 | succ d ih =>
  rintro i o r rfl h1 h2 h3 h4 h5 h6
  have e1:(((d+1:Nat):Int)-1)=(d:Int):=by omega
  have hx:=dZ ha (d:Int) (by omega) (by omega)
  rw [dx] at hx
  have hv0:0≤r*4294967296+rd a d:=by omega
  have hq0:0≤(r*4294967296+rd a d) / K:=Int.ediv_nonneg hv0 (by omega)
  have hq1:(r*4294967296+rd a d) / K<4294967296:=by
   refine Int.ediv_lt_of_lt_mul (by omega) ?_
   have:(r+1)*4294967296≤K*4294967296:=Int.mul_le_mul_of_nonneg_right (by omega) (by omega)
   omega
  have hm0:=Int.emod_nonneg (r*4294967296+rd a d) (show K≠0 by omega)
  have hm1:=Int.emod_lt_of_pos (r*4294967296+rd a d) (show 0<K by omega)
  have hdv:(r*4294967296+rd a d) / K*K+(r*4294967296+rd a d) % K=r*WW+rd a d:=by rw [dx];exact Int.ediv_mul_add_emod _ _
  obtain ⟨q,z,h7,h8⟩:=ih d (o.set d ((r*4294967296+rd a d) / K)) ((r*4294967296+rd a d) % K) rfl (by omega) (by simpa using h2)
   (by rw [e8 _ _ _ (by omega)];exact Dg.mk hq0 (by rw [dx];exact hq1) h3) hm0 hm1
   (by rw [e8 _ _ _ (by omega),fI a d (by omega),vl,vl];exact alg_dw h6 hdv)
  refine ⟨q,z,?_,h8⟩
  refine Ev.step (fun k=>by rw [di.l0]) ?_
  rw [e1,u64 (x:=r*4294967296) (by omega) (by omega),u64 (x:=rd a d) (by omega) (by omega),u64 (x:=K) (by omega) (by omega),or64 ⟨h4,by omega⟩ hx,fH hv0,fS hv0,u64 (x:=(r*4294967296+rd a d) / K) (by omega) (by omega),w64 (x:=(d:Int)-1) (by omega) (by omega),Int.toNat_natCast,Int.emod_eq_of_lt hq0 hq1]
  exact evp (by omega) (evp (by omega) (evp (by omega) (evn (by omega) (evp (by omega) h7))))
theorem tP {a:List Int} {n K:Int} (hn:a.length<68719476736) (ha:Can WW a n) (hK:1≤K∧K<4294967296):∃ q,Ev (fun k=>di.f k a K) (q,n % K)∧Can WW q (n / K)∧q.length≤a.length:=by
 obtain ⟨q,z,h1,⟨m,h2,h3⟩,h4,h5,h6⟩:=tQ hn ha.1 hK a.length a.length (List.replicate a.length 0) 0 rfl (Nat.le_refl _) (by simp) (by rw [List.drop_eq_nil_of_le (by simp)];exact Dg.nil _) (by omega) (by omega) (by rw [List.drop_eq_nil_of_le (by simp),List.drop_length];simp [vl])
 rw [ha.2.2] at h3
 have e1:n / K=m:=by
  rw [← h3,Int.add_comm,Int.add_mul_ediv_right _ _ (by omega),Int.ediv_eq_zero_of_lt h4 h5];omega
 have e2:n % K=z:=by
  rw [← h3,Int.add_comm,Int.add_mul_emod_self_right,Int.emod_eq_of_lt h4 h5]
 refine ⟨q,?_,by rw [e1];exact h2,h6⟩
 unfold di.f
 rw [e2,w64 (x:=(a.length:Int)-1) (by omega) (by omega),Int.toNat_natCast]
 exact evp (by omega) (evp (by omega) h1)
theorem tab_len:∀ i:Fin 256,∃ L:Fin 9,bt (⟨#[0,1,2,2,3,3,3,3,4,4,4,4,4,4,4,4,5,5,5,5,5,5,5,5,5,5,5,5,5,5,5,5,6,6,6,6,6,6,6,6,6,6,6,6,6,6,6,6,6,6,6,6,6,6,6,6,6,6,6,6,6,6,6,6,7,7,7,7,7,7,7,7,7,7,7,7,7,7,7,7,7,7,7,7,7,7,7,7,7,7,7,7,7,7,7,7,7,7,7,7,7,7,7,7,7,7,7,7,7,7,7,7,7,7,7,7,7,7,7,7,7,7,7,7,7,7,7,7,8,8,8,8,8,8,8,8,8,8,8,8,8,8,8,8,8,8,8,8,8,8,8,8,8,8,8,8,8,8,8,8,8,8,8,8,8,8,8,8,8,8,8,8,8,8,8,8,8,8,8,8,8,8,8,8,8,8,8,8,8,8,8,8,8,8,8,8,8,8,8,8,8,8,8,8,8,8,8,8,8,8,8,8,8,8,8,8,8,8,8,8,8,8,8,8,8,8,8,8,8,8,8,8,8,8,8,8,8,8,8,8,8,8,8,8,8,8,8,8,8,8,8,8,8,8,8,8]⟩:ByteArray) ((i.val:Nat):Int)=(L.val:Int)∧i.val<2 ^ L.val∧(i.val≠0→2 ^ (L.val-1)≤i.val∧1≤L.val):=by decide +kernel
theorem rj {x:Int} (h0:0≤x) (h1:x<256):∃ L:Nat,bt (⟨#[0,1,2,2,3,3,3,3,4,4,4,4,4,4,4,4,5,5,5,5,5,5,5,5,5,5,5,5,5,5,5,5,6,6,6,6,6,6,6,6,6,6,6,6,6,6,6,6,6,6,6,6,6,6,6,6,6,6,6,6,6,6,6,6,7,7,7,7,7,7,7,7,7,7,7,7,7,7,7,7,7,7,7,7,7,7,7,7,7,7,7,7,7,7,7,7,7,7,7,7,7,7,7,7,7,7,7,7,7,7,7,7,7,7,7,7,7,7,7,7,7,7,7,7,7,7,7,7,8,8,8,8,8,8,8,8,8,8,8,8,8,8,8,8,8,8,8,8,8,8,8,8,8,8,8,8,8,8,8,8,8,8,8,8,8,8,8,8,8,8,8,8,8,8,8,8,8,8,8,8,8,8,8,8,8,8,8,8,8,8,8,8,8,8,8,8,8,8,8,8,8,8,8,8,8,8,8,8,8,8,8,8,8,8,8,8,8,8,8,8,8,8,8,8,8,8,8,8,8,8,8,8,8,8,8,8,8,8,8,8,8,8,8,8,8,8,8,8,8,8,8,8,8,8,8,8]⟩:ByteArray) x=(L:Int)∧L≤8∧x<2 ^ L∧(x≠0→2 ^ (L-1)≤x∧1≤L):=by
 obtain ⟨n,rfl⟩:=Int.eq_ofNat_of_zero_le h0
 obtain ⟨L,h2,h3,h4⟩:=tab_len ⟨n,by omega⟩
 refine ⟨L.val,h2,by omega,by exact_mod_cast h3,fun h=>?_⟩
 obtain ⟨h5,h6⟩:=h4 (show n≠0 by omega)
 exact ⟨by exact_mod_cast h5,h6⟩
theorem CZ {x y:Int} {L k:Nat} (h0:0≤x) (e:y=x / 2 ^ k) (h1:y<2 ^ L) (h2:2 ^ (L-1)≤y) (h3:1≤L):x<2 ^ (k+L)∧2 ^ (k+L-1)≤x:=by
 have hp:(0:Int)<2 ^ k:=Int.pow_pos (by decide)
 have d1:=Int.mul_ediv_add_emod x (2 ^ k)
 have d2:=Int.emod_nonneg x (show (2:Int) ^ k≠0 by omega)
 have d3:=Int.emod_lt_of_pos x hp
 rw [← e] at d1
 have e2:k+L-1=k+(L-1):=by omega
 rw [e2,Int.pow_add,Int.pow_add]
 have m1:(2:Int) ^ k*(y+1)≤2 ^ k*2 ^ L:=Int.mul_le_mul_of_nonneg_left (by omega) (by omega)
 have m2:(2:Int) ^ k*2 ^ (L-1)≤2 ^ k*y:=Int.mul_le_mul_of_nonneg_left h2 (by omega)
 rw [Int.mul_add] at m1
 omega
theorem len32_sp {x:Int} (h0:0≤x) (h1:x<4294967296):∃ L:Nat,iL.f x=some (L:Int)∧L≤32∧x<2 ^ L∧(x≠0→2 ^ (L-1)≤x∧1≤L):=by
 unfold iL.f
 by_cases c1:x≥65536
 ·by_cases c2:x / 65536≥256
  ·have e:x / 65536 / 256 % 256=x / 2 ^ 24:=by omega
   obtain ⟨L,t1,t2,t3,t4⟩:=rj (x:=x / 2 ^ 24) (by omega) (by omega)
   obtain ⟨t5,t6⟩:=t4 (by omega)
   obtain ⟨t7,t8⟩:=CZ h0 rfl t3 t5 t6
   refine ⟨24+L,?_,by omega,t7,fun _=>⟨t8,by omega⟩⟩
   rw [if_pos c1,if_pos c2,e,if_pos (by omega),if_pos (by omega),t1,w64 (x:=(L:Int)) (by omega) (by omega),w64 (by omega) (by omega)]
   exact congrArg some (by omega)
  ·have e:x / 65536 % 256=x / 2 ^ 16:=by omega
   obtain ⟨L,t1,t2,t3,t4⟩:=rj (x:=x / 2 ^ 16) (by omega) (by omega)
   obtain ⟨t5,t6⟩:=t4 (by omega)
   obtain ⟨t7,t8⟩:=CZ h0 rfl t3 t5 t6
   refine ⟨16+L,?_,by omega,t7,fun _=>⟨t8,by omega⟩⟩
   rw [if_pos c1,if_neg c2,e,if_pos (by omega),if_pos (by omega),t1,w64 (x:=(L:Int)) (by omega) (by omega),w64 (by omega) (by omega)]
   exact congrArg some (by omega)
 ·by_cases c2:x≥256
  ·have e:x / 256 % 256=x / 2 ^ 8:=by omega
   obtain ⟨L,t1,t2,t3,t4⟩:=rj (x:=x / 2 ^ 8) (by omega) (by omega)
   obtain ⟨t5,t6⟩:=t4 (by omega)
   obtain ⟨t7,t8⟩:=CZ h0 rfl t3 t5 t6
   refine ⟨8+L,?_,by omega,t7,fun _=>⟨t8,by omega⟩⟩
   rw [if_neg c1,if_pos c2,e,if_pos (by omega),if_pos (by omega),t1,w64 (x:=(L:Int)) (by omega) (by omega),w64 (by omega) (by omega)]
   exact congrArg some (by omega)
  ·have e:x % 256=x:=by omega
   obtain ⟨L,t1,t2,t3,t4⟩:=rj (x:=x) (by omega) (by omega)
   refine ⟨L,?_,by omega,t3,t4⟩
   rw [if_neg c1,if_neg c2,e,if_pos (by omega),if_pos (by omega),t1,w64 (x:=(L:Int)) (by omega) (by omega),w64 (by omega) (by omega)]
   exact congrArg some (by omega)
theorem DY {x:Int} (h0:0≤x) (h1:x<4294967296):∃ L:Nat,cQ.f x=some ((32-L:Nat):Int)∧L≤32∧x<2 ^ L∧(x≠0→2 ^ (L-1)≤x∧1≤L):=by
 obtain ⟨L,t1,t2,t3⟩:=len32_sp h0 h1
 refine ⟨L,?_,t2,t3⟩
 unfold cQ.f
 rw [t1,Option.bind_some,w64 (by omega) (by omega)]
 exact congrArg some (by omega)
theorem Fb (w:Nat):WW ^ w=2 ^ (32*w):=by rw [Int.pow_mul];rfl
theorem xh (s:Nat):(2:Int) ^ s=WW ^ (s / 32)*2 ^ (s % 32):=by
 rw [Fb,← Int.pow_add];congr 1;omega
theorem tc {a:List Int} (h:0<a.length):vl WW a=vl WW (a.take (a.length-1))+rd a ((a.length:Int)-1)*WW ^ (a.length-1):=by
 have e:=dF WW a (a.length-1) (by omega)
 rw [Nat.sub_add_cancel h,List.take_length] at e
 rw [e]
 congr 2
 congr 1
 omega
theorem sX {a:List Int} {n:Int} (hn:a.length<68719476736) (ha:Can WW a n):∃ b:Nat,gV.f a=some (b:Int)∧b≤32*a.length∧(a.length=0→b=0)∧(n≠0→2 ^ (b-1)≤n∧n<2 ^ b∧1≤b∧32*(a.length-1)<b):=by
 unfold gV.f
 by_cases c:a.length=0
 ·refine ⟨0,by rw [if_pos (by omega)];rfl,by omega,fun _=>rfl,fun h=>absurd ((ha.ji aM).1 c) h⟩
 ·have hx:=dZ ha.1 ((a.length:Int)-1) (by omega) (by omega)
  have hnz:=ha.2.1.rd (by omega)
  rw [dx] at hx
  obtain ⟨L,t1,t2,t3,t4⟩:=DY hx.1 hx.2
  obtain ⟨t5,t6⟩:=t4 hnz
  refine ⟨32*a.length-(32-L),?_,by omega,fun h=>absurd h c,fun _=>?_⟩
  ·rw [if_neg (by omega),w64 (x:=(a.length:Int)-1) (by omega) (by omega),if_pos (by omega),if_pos (by omega),t1,Option.bind_some,w64 (x:=32*(a.length:Int)) (by omega) (by omega),w64 (by omega) (by omega)]
   congr 1
   omega
  ·have lv:=tc (a:=a) (by omega)
   rw [ha.2.2] at lv
   have hd:=ha.1.take (a.length-1)
   have l0:=bV aM hd
   have l1:=iR aM hd
   rw [List.length_take,Nat.min_eq_left (by omega)] at l1
   have hP:(0:Int)<WW ^ (a.length-1):=jl aM _
   generalize hr:rd a ((a.length:Int)-1)=r at *
   have e1:(2:Int) ^ (32*a.length-(32-L))=2 ^ L*WW ^ (a.length-1):=by rw [Fb,← Int.pow_add];congr 1;omega
   have e2:(2:Int) ^ (32*a.length-(32-L)-1)=2 ^ (L-1)*WW ^ (a.length-1):=by rw [Fb,← Int.pow_add];congr 1;omega
   have m1:(r+1)*WW ^ (a.length-1)≤2 ^ L*WW ^ (a.length-1):=Int.mul_le_mul_of_nonneg_right (by omega) (by omega)
   have m2:2 ^ (L-1)*WW ^ (a.length-1)≤r*WW ^ (a.length-1):=Int.mul_le_mul_of_nonneg_right t5 (by omega)
   rw [Int.add_mul] at m1
   rw [e1,e2]
   exact ⟨by omega,by omega,by omega,by omega⟩
theorem shl_p {x:Int} {p:Nat} (hp:p<32) (hx:0≤x∧x<4294967296):shl .u64 (IntKind.u64.wrap x) (p:Int)=x*2 ^ p∧0≤x*2 ^ p∧x*2 ^ p<4294967296*2 ^ p∧(2:Int) ^ p≤2147483648∧(1:Int)≤2 ^ p:=by
 have h1:(1:Int)≤2 ^ p:=by have:(0:Int)<2 ^ p:=Int.pow_pos (by decide);omega
 have h2:(2:Int) ^ p≤2 ^ 31:=by
  have:2 ^ p≤2 ^ 31:=Nat.pow_le_pow_right (by decide) (by omega)
  exact_mod_cast this
 have h3:x*2 ^ p<4294967296*2 ^ p:=Int.mul_lt_mul_of_pos_right hx.2 (by omega)
 have h4:0≤x*2 ^ p:=Int.mul_nonneg hx.1 (by omega)
 refine ⟨?_,h4,h3,by omega,h1⟩
 have hm:min p IntKind.u64.bits=p:=by
  have:IntKind.u64.bits=64:=rfl
  omega
 unfold shl
 rw [Int.toNat_natCast,hm,u64 (x:=x) (by omega) (by omega),u64 h4 (by omega)]
theorem alg_shl {vo P old lo hi va x M W T Q:Int} (h:vo+old*P=va*M*T) (hy:lo+W*hi=x*M) (hP:P=T*Q):(vo+(old+lo)*P)+hi*(W*P)=(va+x*Q)*M*T:=by grind
theorem or_shl {x old:Int} {p:Nat} (hp:p<32) (hx:0≤x∧x<4294967296) (ho:0≤old∧old<2 ^ p):Go.bits .or .u32 old (x*2 ^ p % 4294967296)=old+x*2 ^ p % 4294967296:=by
 obtain ⟨_,h1,h2,h3,h4⟩:=shl_p hp hx
 have hd:x*2 ^ p % 4294967296 % 2 ^ p=0:=by
  have hdv:(2:Int) ^ p ∣ 4294967296:=by
   have:(4294967296:Int)=2 ^ p*2 ^ (32-p):=by rw [← Int.pow_add,show p+(32-p)=32 by omega];rfl
   rw [this];exact Int.dvd_mul_right _ _
  rw [Int.emod_emod_of_dvd _ hdv,Int.mul_emod_left]
 rw [Ak,bits_join .u32 32 (by decide) (fun n h0 h1=>by rw [IntKind.wrap_u32];omega) p _ _ (by omega) hd (by omega) ho.1 ho.2 (by omega)]
 omega
theorem DM {x old:Int} {p:Nat} (hp:p<32) (hx:0≤x∧x<4294967296) (ho:0≤old∧old<2 ^ p):old+x*2 ^ p % 4294967296<4294967296:=by
 have h:=(bits_within .or .u32 old (x*2 ^ p % 4294967296)).2
 rw [or_shl hp hx ho] at h
 have e:IntKind.u32.max=4294967295:=rfl
 rw [e] at h
 exact Int.lt_of_le_of_lt h (by decide)
theorem Ce {a:List Int} {w p:Nat} (hn:a.length+w<68719476736) (hp:p<32) (ha:Dg WW a) (d:Nat):∀ (i:Nat) (o:List Int),a.length-i=d→i≤a.length→o.length=a.length+w+1→Dg WW o→vl WW (o.take (i+w+1))=vl WW (a.take i)*2 ^ p*WW ^ w→rd o ((i+w:Nat):Int)<2 ^ p →
 ∃ r,Ev (fun k=>fk.l0 k (w:Int) (p:Int) o a (a.length:Int) (i:Int)) r∧Can WW r (vl WW a*(WW ^ w*2 ^ p))∧r.length≤a.length+w+1:=by
 induction d with
 | zero =>
  intro i o h1 h2 h3 h4 h5 h6
  have ei:i=a.length:=by omega
  subst ei
  rw [← h3,List.take_length,List.take_length] at h5
  obtain ⟨r,r1,r2,r3⟩:=fx (l:=o) (by omega) h4
  rw [h5] at r2
  refine ⟨r,?_,by rw [Int.mul_comm (WW ^ w),← Int.mul_assoc];exact r2,by omega⟩
  refine Ev.step (fun k=>by rw [fk.l0]) ?_
  exact evn (by omega) (Ev.bind r1 (evs _))
 | succ d ih =>
  intro i o h1 h2 h3 h4 h5 h6
  have hx:=dZ ha (i:Int) (by omega) (by omega)
  have ho:=dZ h4 ((i+w:Nat):Int) (by omega) (by omega)
  rw [dx] at hx ho
  obtain ⟨s2,s3,s4,s5⟩:=(shl_p hp hx).2
  have hy1:rd a (i:Int)*2 ^ p % 4294967296+WW*(rd a (i:Int)*2 ^ p / 4294967296)=rd a (i:Int)*2 ^ p:=by rw [dx];exact Int.emod_add_mul_ediv _ _
  have hhi0:0≤rd a (i:Int)*2 ^ p / 4294967296:=by omega
  have hhi1:rd a (i:Int)*2 ^ p / 4294967296<2 ^ p:=Int.ediv_lt_of_lt_mul (by omega) (by omega)
  have hdv:=DM hp hx ⟨ho.1,h6⟩
  generalize hlo:rd a (i:Int)*2 ^ p % 4294967296=lo at *
  generalize hhi:rd a (i:Int)*2 ^ p / 4294967296=hi at *
  have hlo0:0≤lo:=by omega
  have d1:Dg WW (o.set (i+w) (rd o ((i+w:Nat):Int)+lo)):=h4.set _ (by omega) (by rw [dx];omega)
  obtain ⟨r,r1,r2⟩:=ih (i+1) ((o.set (i+w) (rd o ((i+w:Nat):Int)+lo)).set (i+w+1) hi) (by omega) (by omega) (by simpa using h3)
   (d1.set _ hhi0 (by rw [dx];omega))
   (by
    rw [show i+1+w+1=i+w+1+1 by omega,iQ _ _ _ _ (by simp;omega),iQ _ _ _ _ (by omega),dF WW a i (by omega),Int.pow_succ,Int.mul_comm (WW ^ (i+w)) WW]
    rw [dF WW o (i+w) (by omega)] at h5
    exact alg_shl h5 hy1 (by rw [Int.pow_add,Int.mul_comm]))
   (by
    rw [show ((i+1+w:Nat):Int)=((i+w+1:Nat):Int) by omega]
    have:=w9 (o.set (i+w) (rd o ((i+w:Nat):Int)+lo)) ((i+w+1:Nat):Int) hi (by simp;omega)
    rw [Int.toNat_natCast] at this
    rw [this]
    exact hhi1)
  refine ⟨r,?_,r2⟩
  refine Ev.step (fun k=>by rw [fk.l0]) ?_
  have e2:hi % 4294967296=hi:=by omega
  rw [show (i:Int)+(w:Int)=((i+w:Nat):Int) by omega,w64 (x:=((i+w:Nat):Int)) (by omega) (by omega),iC (i:=i+w) (by omega),iC (i:=i) (by omega),Int.toNat_natCast,Int.toNat_natCast,(shl_p hp hx).1,hlo,hhi,e2]
  have so:=or_shl hp hx ⟨ho.1,h6⟩
  rw [hlo] at so
  rw [so]
  clear so
  exact evp (by omega) (evp (by omega) (evp (by omega) (evp (by omega) (evp (by omega) (evp (by omega) (evp (by omega) (evp (by omega) r1)))))))
theorem uC {a:List Int} {n:Int} (s:Nat) (hn:a.length+s<68719476736) (ha:Can WW a n):∃ r,Ev (fun k=>fk.f k a (s:Int)) r∧Can WW r (n*2 ^ s)∧r.length≤a.length+s / 32+1:=by
 unfold fk.f
 by_cases c:a.length=0
 ·refine ⟨[],evp (by omega) (evs _),?_,by simp⟩
  rw [(ha.ji aM).1 c,Int.zero_mul]
  exact Can.zero _
 ·obtain ⟨r,r1,r2,r3⟩:=Ce (a:=a) (w:=s / 32) (p:=s % 32) (by omega) (by omega) ha.1 a.length 0 (List.replicate (a.length+s / 32+1) 0) (by omega) (by omega) (by simp) (Dg.rep aM _)
   (by rw [List.take_replicate,zF,List.take_zero,vl];simp)
   (by
    have h1:(0:Int)<2 ^ (s % 32):=Int.pow_pos (by decide)
    have h2:rd (List.replicate (a.length+s / 32+1) (0:Int)) ((0+s / 32:Nat):Int)=0:=by
     rw [pG _ _ (by simp;omega)];simp
    rw [h2];exact h1)
  rw [← xh,ha.2.2] at r2
  refine ⟨r,?_,r2,r3⟩
  have e1:wrap64 (Int.tdiv (s:Int) 32)=((s / 32:Nat):Int):=by rw [fH (by omega),w64 (by omega) (by omega)];omega
  have e2:IntKind.u64.wrap (Int.tmod (s:Int) 32)=((s % 32:Nat):Int):=by rw [fS (by omega),u64 (by omega) (by omega)];omega
  have e3:wrap64 (wrap64 ((a.length:Int)+((s / 32:Nat):Int))+1)=((a.length+s / 32+1:Nat):Int):=by rw [w64 (x:=(a.length:Int)+((s / 32:Nat):Int)) (by omega) (by omega),w64 (by omega) (by omega)];omega
  rw [e1,e2,e3,Int.toNat_natCast]
  exact evn (by omega) (evp (by omega) (evp (by omega) r1))
end Go.Proofs.YtjimdhlmeebjeaaGreat.P
end
section
namespace Go.Proofs.YtjimdhlmeebjeaaGreat.P
open Go.RowKit Go.Proofs.YtjimdhlmeebjeaaGreatW.PrintWords Go.Proofs.YtjimdhlmeebjeaaGreatW.PrintLast Go.Proofs.YtjimdhlmeebjeaaGreatW.PrintMore
set_option linter.unusedVariables false
theorem two_pos (p:Nat):(0:Int)<2 ^ p:=Int.pow_pos (by decide)
theorem shr_p {x:Int} {p:Nat} (hp:p<32):shr .u64 x (p:Int)=x / 2 ^ p:=by
 have hm:min p IntKind.u64.bits=p:=by
  have:IntKind.u64.bits=64:=rfl
  omega
 unfold shr
 rw [Int.toNat_natCast,hm]
theorem WW_split {p:Nat} (hp:p<32):WW=2 ^ p*2 ^ (32-p):=by rw [← Int.pow_add,show p+(32-p)=32 by omega];rfl
theorem shr_word {x T t:Int} {p:Nat} (hp:p<32) (hx:0≤x∧x<WW) (ht:0≤t∧t<WW) (hT:∃ u,0≤u∧T=t+WW*u) :
 (t*WW+x) / 2 ^ p % WW+WW*(T / 2 ^ p)=(x+WW*T) / 2 ^ p∧0≤(t*WW+x) / 2 ^ p % WW∧(t*WW+x) / 2 ^ p % WW<WW:=by
 obtain ⟨u,hu,hT⟩:=hT
 have hM:=two_pos p
 have hW:=WW_split hp
 have hK:=two_pos (32-p)
 have hWp:=aM
 have hWe:=dx
 generalize hMM:(2:Int) ^ p=M at *
 generalize hKK:(2:Int) ^ (32-p)=K at *
 refine ⟨?_,Int.emod_nonneg _ (by omega),Int.emod_lt_of_pos _ hWp⟩
 have d1:=Int.mul_ediv_add_emod t M
 have r0:=Int.emod_nonneg t (show M≠0 by omega)
 have r1:=Int.emod_lt_of_pos t hM
 generalize hq:t / M=q at *
 generalize hr:t % M=r at *
 clear hq hr
 have a1:t*WW+x=(x+WW*r)+M*(WW*q):=by rw [← d1];grind
 have a2:T=r+M*(q+K*u):=by rw [hT,← d1,hW];grind
 have a3:x+WW*T=(x+WW*r)+M*(WW*(q+K*u)):=by rw [a2];grind
 have lo:0≤x+WW*r:=by
  have:=Int.mul_nonneg (Int.le_of_lt hWp) r0
  omega
 have hi:x+WW*r<M*WW:=by
  have m:WW*(r+1)≤WW*M:=Int.mul_le_mul_of_nonneg_left (by omega) (by omega)
  rw [Int.mul_add,Int.mul_comm WW M] at m
  omega
 rw [a1,a3,Int.add_mul_ediv_left _ _ (by omega),Int.add_mul_ediv_left _ _ (by omega)]
 have e2:T / M=q+K*u:=by rw [a2,Int.add_mul_ediv_left _ _ (by omega),Int.ediv_eq_zero_of_lt r0 r1];omega
 rw [e2]
 have b0:0≤(x+WW*r) / M:=Int.ediv_nonneg lo (by omega)
 have b1:(x+WW*r) / M<WW:=Int.ediv_lt_of_lt_mul hM (by rw [Int.mul_comm WW M];exact hi)
 rw [Int.add_mul_emod_self_left,Int.emod_eq_of_lt b0 b1]
theorem alg_shr {vo P d T W V T0:Int} (h:vo+P*T0=V) (h2:d+W*T=T0):(vo+d*P)+(P*W)*T=V:=by grind
theorem vl_dropd (a:List Int) (ha:Dg WW a) (i:Nat):∃ t,0≤t∧t<WW∧(∃ u,0≤u∧vl WW (a.drop i)=t+WW*u)∧(i<a.length→t=rd a (i:Int))∧(a.length≤i→t=0):=by
 by_cases c:i<a.length
 ·have hx:=dZ ha (i:Int) (by omega) (by omega)
  refine ⟨rd a (i:Int),hx.1,hx.2,⟨vl WW (a.drop (i+1)),bV aM (ha.drop _),by rw [fI a i c,vl]⟩,fun _=>rfl,fun h=>by omega⟩
 ·exact ⟨0,by decide,by decide,⟨0,by decide,by rw [List.drop_eq_nil_of_le (by omega),vl];rfl⟩,fun h=>absurd h c,fun _=>rfl⟩
theorem Cd {a:List Int} {w p m:Nat} (hn:a.length<68719476736) (hw:w+m=a.length) (hp:p<32) (ha:Dg WW a) (d:Nat):∀ (i:Nat) (o:List Int),m-i=d→i≤m→o.length=m→Dg WW (o.take i)→vl WW (o.take i)+WW ^ i*(vl WW (a.drop (i+w)) / 2 ^ p)=vl WW (a.drop w) / 2 ^ p →
 ∃ r,Ev (fun k=>fe.l0 k a (w:Int) (p:Int) o (m:Int) (i:Int)) r∧Can WW r (vl WW (a.drop w) / 2 ^ p)∧r.length≤m:=by
 induction d with
 | zero =>
  intro i o h1 h2 h3 h4 h5
  have ei:i=m:=by omega
  subst ei
  rw [List.drop_eq_nil_of_le (by omega),vl,Int.zero_ediv,Int.mul_zero,Int.add_zero,← h3,List.take_length] at h5
  rw [← h3,List.take_length] at h4
  obtain ⟨r,r1,r2,r3⟩:=fx (l:=o) (by omega) h4
  rw [h5] at r2
  refine ⟨r,?_,r2,by omega⟩
  refine Ev.step (fun k=>by rw [fe.l0]) ?_
  exact evn (by omega) (Ev.bind r1 (evs _))
 | succ d ih =>
  intro i o h1 h2 h3 h4 h5
  have hx:=dZ ha ((i+w:Nat):Int) (by omega) (by omega)
  obtain ⟨t,t0,t1,t2,t3,t4⟩:=vl_dropd a ha (i+w+1)
  obtain ⟨s1,s2,s3⟩:=shr_word hp hx ⟨t0,t1⟩ t2
  rw [fI a (i+w) (by omega),vl] at h5
  obtain ⟨r,r1,r2⟩:=ih (i+1) (o.set i ((t*WW+rd a ((i+w:Nat):Int)) / 2 ^ p % WW)) (by omega) (by omega) (by simpa using h3)
   (Dg.take_set (by omega) h4 s2 s3)
   (by
    rw [iQ _ _ _ _ (by omega),show i+1+w=i+w+1 by omega,Int.pow_succ]
    exact alg_shr h5 s1)
  refine ⟨r,?_,r2⟩
  refine Ev.step (fun k=>by rw [fe.l0]) ?_
  rw [dx] at hx t1
  rw [show (i:Int)+(w:Int)=((i+w:Nat):Int) by omega,w64 (x:=((i+w:Nat):Int)) (by omega) (by omega),iC (i:=i+w) (by omega),iC (i:=i) (by omega),Int.toNat_natCast]
  refine evp (by omega) (evp (by omega) (evp (by omega) ?_))
  by_cases c:i+w+1<a.length
  ·have e:=t3 c
   rw [← e,u64 (x:=t) (by omega) (by omega),u64 (x:=rd a ((i+w:Nat):Int)) (by omega) (by omega),u64 (x:=t*4294967296) (by omega) (by omega),or64' ⟨t0,t1⟩ hx,shr_p (x:=t*4294967296+rd a ((i+w:Nat):Int)) hp]
   exact evp (by omega) (evp (by omega) (evp (by omega) (evp (by omega) (evp (by omega) r1))))
  ·have e:=t4 (by omega)
   subst e
   rw [Int.zero_mul,Int.zero_add] at r1
   rw [u64 (x:=rd a ((i+w:Nat):Int)) (by omega) (by omega),shr_p (x:=rd a ((i+w:Nat):Int)) hp]
   exact evn (by omega) (evp (by omega) (evp (by omega) (evp (by omega) r1)))
theorem can_shr {a:List Int} {n:Int} (ha:Can WW a n) (s:Nat):(s / 32<a.length→n / 2 ^ s=vl WW (a.drop (s / 32)) / 2 ^ (s % 32))∧(a.length≤s / 32→n / 2 ^ s=0):=by
 have hP:=jl aM (s / 32)
 have hM:=two_pos (s % 32)
 rw [xh s]
 constructor
 ·intro h
  have hd:=iD WW a (s / 32) (by omega)
  rw [ha.2.2] at hd
  have l0:=bV aM (ha.1.take (s / 32))
  have l1:=iR aM (ha.1.take (s / 32))
  rw [List.length_take,Nat.min_eq_left (by omega)] at l1
  rw [hd,← Int.ediv_ediv_of_nonneg (by omega),Int.add_mul_ediv_left _ _ (by omega),Int.ediv_eq_zero_of_lt l0 l1,Int.zero_add]
 ·intro h
  have h1:=ha.lt aM
  have h2:=eY (B:=WW) (by decide) h
  refine Int.ediv_eq_zero_of_lt (ha.gu aM) ?_
  have h3:WW ^ (s / 32)*1≤WW ^ (s / 32)*2 ^ (s % 32):=Int.mul_le_mul_of_nonneg_left (by omega) (by omega)
  omega
theorem pS {a:List Int} {n:Int} (s:Nat) (hn:a.length<68719476736) (hs:s<68719476736) (ha:Can WW a n):∃ r,Ev (fun k=>fe.f k a (s:Int)) r∧Can WW r (n / 2 ^ s)∧r.length≤a.length:=by
 obtain ⟨c1,c2⟩:=can_shr ha s
 have e1:wrap64 (Int.tdiv (s:Int) 32)=((s / 32:Nat):Int):=by rw [fH (by omega),w64 (by omega) (by omega)];omega
 have e2:IntKind.u64.wrap (Int.tmod (s:Int) 32)=((s % 32:Nat):Int):=by rw [fS (by omega),u64 (by omega) (by omega)];omega
 unfold fe.f
 rw [e1,e2]
 clear e1 e2
 by_cases c:a.length≤s / 32
 ·refine ⟨[],evp (by omega) (evs _),?_,by simp⟩
  rw [c2 c]
  exact Can.zero _
 ·obtain ⟨r,r1,r2,r3⟩:=Cd (a:=a) (w:=s / 32) (p:=s % 32) (m:=a.length-s / 32) hn (by omega) (by omega) ha.1 (a.length-s / 32) 0 (List.replicate (a.length-s / 32) 0) (by omega) (by omega) (by simp) (by rw [List.take_zero];exact Dg.nil _)
   (by rw [List.take_zero,vl,Int.pow_zero,Nat.zero_add];omega)
  rw [← c1 (by omega)] at r2
  refine ⟨r,?_,r2,by omega⟩
  rw [show (a.length:Int)-((s / 32:Nat):Int)=((a.length-s / 32:Nat):Int) by omega,w64 (x:=((a.length-s / 32:Nat):Int)) (by omega) (by omega),Int.toNat_natCast]
  refine evn (by omega) (evp (by omega) (evp (by omega) (evb rfl ?_)))
  rw [List.length_replicate]
  exact r1
end Go.Proofs.YtjimdhlmeebjeaaGreat.P
end
section
namespace Go.Proofs.YtjimdhlmeebjeaaGreat.P
open Go.RowKit Go.Proofs.YtjimdhlmeebjeaaGreatW.PrintWords Go.Proofs.YtjimdhlmeebjeaaGreatW.PrintLast Go.Proofs.YtjimdhlmeebjeaaGreatW.PrintMore
set_option linter.unusedVariables false
theorem sub_step {o c b g x:Int} (ho:0≤o∧o<4294967296) (hc:0≤c∧c<4294967296) (hb:0≤b∧b≤1) (hg:0≤g∧g<4294967296) (hx:0≤x∧x<4294967296) :
 ∃ v c' b',IntKind.u64.wrap (c+IntKind.u64.wrap (g*IntKind.u64.wrap x)) / 4294967296=c'∧IntKind.u64.wrap (IntKind.u64.wrap (IntKind.u64.wrap o-IntKind.u64.wrap (c+IntKind.u64.wrap (g*IntKind.u64.wrap x)) % 4294967296)-b) % 4294967296=v∧IntKind.u64.wrap (IntKind.u64.wrap (IntKind.u64.wrap o-IntKind.u64.wrap (c+IntKind.u64.wrap (g*IntKind.u64.wrap x)) % 4294967296)-b) / 9223372036854775808=b'∧v-4294967296*(c'+b')=o-(c+b)-g*x∧0≤v∧v<4294967296∧0≤c'∧c'<4294967296∧0≤b'∧b'≤1:=by
 have hm:=xr hg hx
 rw [u64 (x:=x) (by omega) (by omega),u64 (x:=g*x) (by omega) (by omega),u64 (x:=c+g*x) (by omega) (by omega),u64 (x:=o) (by omega) (by omega),IntKind.wrap_u64,IntKind.wrap_u64]
 generalize g*x=t at *
 refine ⟨_,_,_,rfl,rfl,rfl,?_,?_,?_,?_,?_,?_,?_⟩<;>omega
theorem sub_last {o c b:Int} (ho:0≤o∧o<4294967296) (hc:0≤c∧c<4294967296) (hb:0≤b∧b≤1) :
 ∃ v f,IntKind.u64.wrap (IntKind.u64.wrap (IntKind.u64.wrap o-c)-b) % 4294967296=v∧(IntKind.u64.wrap (IntKind.u64.wrap (IntKind.u64.wrap o-c)-b) / 9223372036854775808==1)=f∧0≤v∧v<4294967296∧v=o-(c+b)+(if f=true then 4294967296 else 0):=by
 rw [u64 (x:=o) (by omega) (by omega),IntKind.wrap_u64,IntKind.wrap_u64]
 refine ⟨_,_,rfl,rfl,by omega,by omega,?_⟩
 simp only [beq_iff_eq]
 split<;>omega
theorem alg_s {vo c b P vu g vv v c' b' o x W:Int} (h:vo-(c+b)*P=vu-g*vv) (h2:v-W*(c'+b')=o-(c+b)-g*x):(vo+v*P)-(c'+b')*(W*P)=(vu+o*P)-g*(vv+x*P):=by grind
theorem alg_s2 {vo c b P vu g vv v o e W:Int} (h:vo-(c+b)*P=vu-g*vv) (h2:v=o-(c+b)+e):vo+v*P=(vu+o*P)-g*vv+e*P:=by grind
theorem sW {u v:List Int} {g:Int} (hl:u.length=v.length+1) (hn:v.length<68719476736) (hu:Dg WW u) (hv:Dg WW v) (hg:0≤g∧g<4294967296) (d:Nat):∀ (i:Nat) (o:List Int) (c b:Int),v.length-i=d→i≤v.length→o.length=u.length→Dg WW (o.take i)→o.drop i=u.drop i→0≤c→c<4294967296→0≤b→b≤1→vl WW (o.take i)-(c+b)*WW ^ i=vl WW (u.take i)-g*vl WW (v.take i) →
 ∃ f r,Ev (fun k=>cw.l0 k o v g c b v (v.length:Int) (i:Int)) (f,r)∧Dg WW r∧r.length=u.length∧vl WW r=vl WW u-g*vl WW v+(if f=true then WW ^ u.length else 0):=by
 induction d with
 | zero =>
  intro i o c b h1 h2 h3 h4 h5 h6 h7 h8 h9 h10
  have ei:i=v.length:=by omega
  subst ei
  have ho:=dZ hu (v.length:Int) (by omega) (by omega)
  rw [dx] at ho
  obtain ⟨z,f,e1,e2,z0,z1,z2⟩:=sub_last ho ⟨h6,h7⟩ ⟨h8,h9⟩
  have er:=kh u o v.length h5 (by omega) h3
  refine ⟨f,o.set v.length z,?_,?_,by simpa using h3,?_⟩
  ·refine Ev.step (fun k=>by rw [cw.l0]) ?_
   refine evn (by omega) (evp (by omega) (evp (by omega) ?_))
   rw [er,e1,e2,Int.toNat_natCast]
   exact evs _
  ·have:=Dg.take_set (l:=o) (i:=v.length) (v:=z) (by omega) h4 z0 (by rw [dx];exact z1)
   rw [List.take_of_length_le (by simp;omega)] at this
   exact this
  ·have e3:=iQ WW o v.length z (by omega)
   rw [List.take_of_length_le (by simp;omega)] at e3
   have e4:=dF WW u v.length (by omega)
   rw [List.take_of_length_le (by omega)] at e4
   rw [List.take_length] at h10
   rw [e3,e4,alg_s2 (W:=WW) h10 z2,hl,Int.pow_succ,Int.mul_comm (WW ^ v.length) WW]
   congr 1
   cases f
   ·simp
   ·simp
 | succ d ih =>
  intro i o c b h1 h2 h3 h4 h5 h6 h7 h8 h9 h10
  have ho:=dZ hu (i:Int) (by omega) (by omega)
  have hx:=dZ hv (i:Int) (by omega) (by omega)
  rw [dx] at ho hx
  obtain ⟨z,c',b',e1,e2,e3,e4,z0,z1,c0,c1,b0,b1⟩:=sub_step ho ⟨h6,h7⟩ ⟨h8,h9⟩ hg hx
  have er:=kh u o i h5 (by omega) h3
  obtain ⟨f,r,r1,r2⟩:=ih (i+1) (o.set i z) c' b' (by omega) (by omega) (by simpa using h3) (Dg.take_set (by omega) h4 z0 (by rw [dx];exact z1))
   (by rw [gC];exact drop_tail u o i h5) c0 c1 b0 b1
   (by
    rw [iQ _ _ _ _ (by omega),dF WW u i (by omega),dF WW v i (by omega),Int.pow_succ,Int.mul_comm (WW ^ i) WW]
    exact alg_s h10 e4)
  refine ⟨f,r,?_,r2⟩
  refine Ev.step (fun k=>by rw [cw.l0]) ?_
  rw [er,e1,e2,e3,iC (i:=i) (by omega),Int.toNat_natCast]
  clear e1 e2 e3
  exact evp (by omega) (evp (by omega) (evp (by omega) (evp (by omega) r1)))
theorem sV {u v:List Int} {g:Int} (hl:u.length=v.length+1) (hn:v.length<68719476736) (hu:Dg WW u) (hv:Dg WW v) (hg:0≤g∧g<4294967296) :
 ∃ f r,Ev (fun k=>cw.f k u v g) (f,r)∧Dg WW r∧r.length=u.length∧vl WW r=vl WW u-g*vl WW v+(if f=true then WW ^ u.length else 0):=by
 obtain ⟨f,r,r1,r2⟩:=sW hl hn hu hv hg v.length 0 u 0 0 (by omega) (by omega) rfl (by rw [List.take_zero];exact Dg.nil _) rfl (by omega) (by omega) (by omega) (by omega) (by simp [vl])
 exact ⟨f,r,by unfold cw.f;exact r1,r2⟩
theorem alg_r {vo c P vu vv v c' o x W:Int} (h:vo+c*P=vu+vv) (h2:v+W*c'=c+(o+x)):(vo+v*P)+c'*(W*P)=(vu+o*P)+(vv+x*P):=by grind
theorem alg_r2 {vo c P vu vv v o e W:Int} (h:vo+c*P=vu+vv) (h2:v+W*e=o+c):vo+v*P+e*(W*P)=(vu+o*P)+vv:=by grind
theorem tO {u v:List Int} (hl:u.length=v.length+1) (hn:v.length<68719476736) (hu:Dg WW u) (hv:Dg WW v) (d:Nat):∀ (i:Nat) (o:List Int) (c:Int),v.length-i=d→i≤v.length→o.length=u.length→Dg WW (o.take i)→o.drop i=u.drop i→0≤c→c≤1→vl WW (o.take i)+c*WW ^ i=vl WW (u.take i)+vl WW (v.take i) →
 ∃ r e,Ev (fun k=>cF.l0 k o v c v (v.length:Int) (i:Int)) r∧Dg WW r∧r.length=u.length∧vl WW r+e*WW ^ u.length=vl WW u+vl WW v∧0≤e:=by
 induction d with
 | zero =>
  intro i o c h1 h2 h3 h4 h5 h6 h7 h8
  have ei:i=v.length:=by omega
  subst ei
  have ho:=dZ hu (v.length:Int) (by omega) (by omega)
  rw [dx] at ho
  have er:=kh u o v.length h5 (by omega) h3
  have ev:(rd u (v.length:Int)+c) % 4294967296+WW*((rd u (v.length:Int)+c) / 4294967296)=rd u (v.length:Int)+c:=by rw [dx];exact Int.emod_add_mul_ediv _ _
  refine ⟨o.set v.length ((rd u (v.length:Int)+c) % 4294967296),(rd u (v.length:Int)+c) / 4294967296,?_,?_,by simpa using h3,?_,by omega⟩
  ·have ec:c % 4294967296=c:=by omega
   refine Ev.step (fun k=>by rw [cF.l0]) ?_
   refine evn (by omega) (evp (by omega) (evp (by omega) ?_))
   rw [er,ec,Int.toNat_natCast]
   exact evs _
  ·have:=Dg.take_set (l:=o) (i:=v.length) (v:=(rd u (v.length:Int)+c) % 4294967296) (by omega) h4 (by omega) (by rw [dx];omega)
   rw [List.take_of_length_le (by simp;omega)] at this
   exact this
  ·have e3:=iQ WW o v.length ((rd u (v.length:Int)+c) % 4294967296) (by omega)
   rw [List.take_of_length_le (by simp;omega)] at e3
   have e4:=dF WW u v.length (by omega)
   rw [List.take_of_length_le (by omega)] at e4
   rw [List.take_length] at h8
   rw [e3,e4,hl,Int.pow_succ,Int.mul_comm (WW ^ v.length) WW]
   exact alg_r2 h8 ev
 | succ d ih =>
  intro i o c h1 h2 h3 h4 h5 h6 h7 h8
  have ho:=dZ hu (i:Int) (by omega) (by omega)
  have hx:=dZ hv (i:Int) (by omega) (by omega)
  rw [dx] at ho hx
  have er:=kh u o i h5 (by omega) h3
  have ev:(c+(rd u (i:Int)+rd v (i:Int))) % 4294967296+WW*((c+(rd u (i:Int)+rd v (i:Int))) / 4294967296)=c+(rd u (i:Int)+rd v (i:Int)):=by rw [dx];exact Int.emod_add_mul_ediv _ _
  obtain ⟨r,e,r1,r2⟩:=ih (i+1) (o.set i ((c+(rd u (i:Int)+rd v (i:Int))) % 4294967296)) ((c+(rd u (i:Int)+rd v (i:Int))) / 4294967296) (by omega) (by omega) (by simpa using h3) (Dg.take_set (by omega) h4 (by omega) (by rw [dx];omega))
   (by rw [gC];exact drop_tail u o i h5) (by omega) (by omega)
   (by
    rw [iQ _ _ _ _ (by omega),dF WW u i (by omega),dF WW v i (by omega),Int.pow_succ,Int.mul_comm (WW ^ i) WW]
    exact alg_r h8 ev)
  refine ⟨r,e,?_,r2⟩
  refine Ev.step (fun k=>by rw [cF.l0]) ?_
  rw [er,u64 (x:=rd u (i:Int)) (by omega) (by omega),u64 (x:=rd v (i:Int)) (by omega) (by omega),u64 (x:=rd u (i:Int)+rd v (i:Int)) (by omega) (by omega),u64 (x:=c+(rd u (i:Int)+rd v (i:Int))) (by omega) (by omega),iC (i:=i) (by omega),Int.toNat_natCast]
  exact evp (by omega) (evp (by omega) (evp (by omega) (evp (by omega) r1)))
theorem tN {u v:List Int} (hl:u.length=v.length+1) (hn:v.length<68719476736) (hu:Dg WW u) (hv:Dg WW v) :
 ∃ r e,Ev (fun k=>cF.f k u v) r∧Dg WW r∧r.length=u.length∧vl WW r+e*WW ^ u.length=vl WW u+vl WW v∧0≤e:=by
 obtain ⟨r,e,r1,r2⟩:=tO hl hn hu hv v.length 0 u 0 (by omega) (by omega) rfl (by rw [List.take_zero];exact Dg.nil _) rfl (by omega) (by omega) (by simp [vl])
 exact ⟨r,e,by unfold cF.f;exact r1,r2⟩
end Go.Proofs.YtjimdhlmeebjeaaGreat.P
end
section
namespace Go.Proofs.YtjimdhlmeebjeaaGreat.P
open Go.RowKit Go.Proofs.YtjimdhlmeebjeaaGreatW.PrintWords Go.Proofs.YtjimdhlmeebjeaaGreatW.PrintLast Go.Proofs.YtjimdhlmeebjeaaGreatW.PrintMore
set_option linter.unusedVariables false
theorem kd_gt {X M P top next x0 high g rest qd W:Int} (hM:(top*W+next)*P≤M) (hX:X<(high*W+x0+1)*P) (hP:0<P) (hq:qd*M≤X) (h:g*top+rest=high) (hd:0≤g) (hM0:0≤M) (hne:g*next>rest*W+x0):qd<g:=by
 rcases Int.lt_or_le qd g with h1 | h1
 ·exact h1
 ·exfalso
  have a1:g*M≤qd*M:=Int.mul_le_mul_of_nonneg_right h1 hM0
  have a2:g*((top*W+next)*P)≤g*M:=Int.mul_le_mul_of_nonneg_left hM hd
  have a3:g*((top*W+next)*P)=(g*(top*W+next))*P:=by grind
  have a4:(g*(top*W+next))*P<(high*W+x0+1)*P:=by omega
  have a5:=Int.lt_of_mul_lt_mul_right a4 (Int.le_of_lt hP)
  have a6:g*(top*W+next)=(high-rest)*W+g*next:=by rw [← h];grind
  have a7:(high-rest)*W=high*W-rest*W:=by grind
  omega
theorem kd_le {X M P top next x0 high g rest qd W:Int} (hM:M≤(top*W+next+1)*P) (hM2:W*P≤M) (hX:(high*W+x0)*P≤X) (hP:0<P) (hq:X<(qd+1)*M) (h:g*top+rest=high) (hd:0≤g) (hg:g<W) (hE:g*next≤rest*W+x0):g≤qd+1:=by
 rcases Int.lt_or_le (qd+1) g with h1 | h1
 ·exfalso
  have hM0:0≤M:=by
   have:0≤W*P:=Int.mul_nonneg (by omega) (by omega)
   omega
  have a1:(qd+1)*M≤(g-1)*M:=Int.mul_le_mul_of_nonneg_right (by omega) hM0
  have a2:g*M≤g*((top*W+next+1)*P):=Int.mul_le_mul_of_nonneg_left hM hd
  have a3:g*((top*W+next+1)*P)=(g*(top*W+next))*P+g*P:=by grind
  have a6:g*(top*W+next)=(high-rest)*W+g*next:=by rw [← h];grind
  have a7:(high-rest)*W=high*W-rest*W:=by grind
  have a8:(g*(top*W+next))*P≤(high*W+x0)*P:=Int.mul_le_mul_of_nonneg_right (by omega) (by omega)
  have a9:g*P≤W*P:=Int.mul_le_mul_of_nonneg_right (by omega) (by omega)
  have a10:(g-1)*M=g*M-M:=by grind
  omega
 ·exact h1
theorem dm_guess {q v u:List Int} {s:Int} {nn j:Nat} {X M P top next x0 high qd:Int} (hn:j+nn<68719476736) (hnn:2≤nn) (hju:j+nn<u.length) (hx0:rd u ((j+nn-2:Nat):Int)=x0)
 (t0:0<top) (t1:top<4294967296) (n0:0≤next) (n1:next<4294967296) (b0:0≤x0) (b1:x0<4294967296)
 (hMl:(top*WW+next)*P≤M) (hMu:M≤(top*WW+next+1)*P) (hM2:WW*P≤M) (hXl:(high*WW+x0)*P≤X) (hXu:X<(high*WW+x0+1)*P) (hP:0<P) (hq:qd*M≤X) (hq2:X<(qd+1)*M) (hqW:qd<4294967296) (hq0:0≤qd) (c:Nat) :
 ∀ g rest:Int,(g-qd).toNat=c→g*top+rest=high→0≤rest→rest<4294967296→qd≤g→g≤4294967297→(g=4294967297→rest+top<4294967296) →
 ∃ g',qd≤g'∧g'≤qd+1∧g'<4294967296∧∀ R,Ev (fun k=>aI.j3 k q s v u (nn:Int) top next (j:Int) g') R→Ev (fun k=>aI.l1 k q s v u (nn:Int) top next (j:Int) g rest) R:=by
 have hM0:0≤M:=by
  have:0≤WW*P:=Int.mul_nonneg (by decide) (by omega)
  omega
 induction c with
 | zero =>
  intro g rest h1 h2 h3 h4 h5 h6 h7
  have eg:g=qd:=by omega
  subst eg
  have hE:¬ (g*next>rest*WW+x0):=fun hne=>by
   have:=kd_gt hMl hXu hP hq h2 (by omega) hM0 hne
   omega
  refine ⟨g,by omega,by omega,hqW,fun R hR=>?_⟩
  have hp:=xr (x:=g) (y:=next) ⟨by omega,hqW⟩ ⟨n0,n1⟩
  refine Ev.step (fun k=>by rw [aI.l1]) ?_
  rw [dx] at hE
  rw [show (j:Int)+(nn:Int)=((j+nn:Nat):Int) by omega,w64 (x:=((j+nn:Nat):Int)) (by omega) (by omega),show ((j+nn:Nat):Int)-2=((j+nn-2:Nat):Int) by omega,w64 (x:=((j+nn-2:Nat):Int)) (by omega) (by omega),hx0,u64 (x:=g*next) (by omega) (by omega),u64 (x:=rest*4294967296) (by omega) (by omega),u64 (x:=x0) (by omega) (by omega),or64 ⟨h3,h4⟩ ⟨b0,b1⟩,decide_eq_false hE]
  refine evn (by omega) (evp (by omega) (evp (by omega) ?_))
  refine Ev.step (fun k=>by rw [aI.j2]) ?_
  exact evn (by simp) hR
 | succ c ih =>
  intro g rest h1 h2 h3 h4 h5 h6 h7
  have hgq:qd<g:=by omega
  have down:(g≥4294967296∨g*next>rest*WW+x0)→∃ g',qd≤g'∧g'≤qd+1∧g'<4294967296∧∀ R,Ev (fun k=>aI.j3 k q s v u (nn:Int) top next (j:Int) g') R→Ev (fun k=>aI.j2 k q s v u (nn:Int) top next (j:Int) g rest true) R:=by
   intro hc
   by_cases c2:rest+top≥4294967296
   ·have e:(g-1)*top+(rest+top)=high:=by rw [← h2];grind
    have hp:=xr (x:=g-1) (y:=next) ⟨by omega,by omega⟩ ⟨n0,n1⟩
    have hE:(g-1)*next≤(rest+top)*WW+x0:=by rw [dx];omega
    refine ⟨g-1,by omega,kd_le hMu hM2 hXl hP hq2 e (by omega) (by rw [dx];omega) hE,by omega,fun R hR=>?_⟩
    refine Ev.step (fun k=>by rw [aI.j2]) ?_
    rw [u64 (x:=rest+top) (by omega) (by omega),u64 (x:=g-1) (by omega) (by omega)]
    exact evp rfl (evp c2 hR)
   ·have e:(g-1)*top+(rest+top)=high:=by rw [← h2];grind
    obtain ⟨g',g1,g2,g3,g4⟩:=ih (g-1) (rest+top) (by omega) e (by omega) (by omega) (by omega) (by omega) (by omega)
    refine ⟨g',g1,g2,g3,fun R hR=>?_⟩
    refine Ev.step (fun k=>by rw [aI.j2]) ?_
    rw [u64 (x:=rest+top) (by omega) (by omega),u64 (x:=g-1) (by omega) (by omega)]
    exact evp rfl (evn c2 (g4 R hR))
  by_cases c1:g≥4294967296
  ·obtain ⟨g',g1,g2,g3,g4⟩:=down (.inl c1)
   refine ⟨g',g1,g2,g3,fun R hR=>?_⟩
   refine Ev.step (fun k=>by rw [aI.l1]) ?_
   exact evp c1 (g4 R hR)
  ·have hp:=xr (x:=g) (y:=next) ⟨by omega,by omega⟩ ⟨n0,n1⟩
   by_cases c2:g*next>rest*WW+x0
   ·obtain ⟨g',g1,g2,g3,g4⟩:=down (.inr c2)
    refine ⟨g',g1,g2,g3,fun R hR=>?_⟩
    refine Ev.step (fun k=>by rw [aI.l1]) ?_
    rw [dx] at c2
    rw [show (j:Int)+(nn:Int)=((j+nn:Nat):Int) by omega,w64 (x:=((j+nn:Nat):Int)) (by omega) (by omega),show ((j+nn:Nat):Int)-2=((j+nn-2:Nat):Int) by omega,w64 (x:=((j+nn-2:Nat):Int)) (by omega) (by omega),hx0,u64 (x:=g*next) (by omega) (by omega),u64 (x:=rest*4294967296) (by omega) (by omega),u64 (x:=x0) (by omega) (by omega),or64 ⟨h3,h4⟩ ⟨b0,b1⟩,decide_eq_true c2]
    exact evn (by omega) (evp (by omega) (evp (by omega) (g4 R hR)))
   ·have hle:=kd_le hMu hM2 hXl hP hq2 h2 (by omega) (by rw [dx];omega) (by omega)
    refine ⟨g,by omega,hle,by omega,fun R hR=>?_⟩
    refine Ev.step (fun k=>by rw [aI.l1]) ?_
    rw [dx] at c2
    rw [show (j:Int)+(nn:Int)=((j+nn:Nat):Int) by omega,w64 (x:=((j+nn:Nat):Int)) (by omega) (by omega),show ((j+nn:Nat):Int)-2=((j+nn-2:Nat):Int) by omega,w64 (x:=((j+nn-2:Nat):Int)) (by omega) (by omega),hx0,u64 (x:=g*next) (by omega) (by omega),u64 (x:=rest*4294967296) (by omega) (by omega),u64 (x:=x0) (by omega) (by omega),or64 ⟨h3,h4⟩ ⟨b0,b1⟩,decide_eq_false c2]
    refine evn (by omega) (evp (by omega) (evp (by omega) ?_))
    refine Ev.step (fun k=>by rw [aI.j2]) ?_
    exact evn (by simp) hR
end Go.Proofs.YtjimdhlmeebjeaaGreat.P
end
section
namespace Go.Proofs.YtjimdhlmeebjeaaGreat.P
open Go.RowKit Go.Proofs.YtjimdhlmeebjeaaGreatW.PrintWords Go.Proofs.YtjimdhlmeebjeaaGreatW.PrintLast Go.Proofs.YtjimdhlmeebjeaaGreatW.PrintMore
set_option linter.unusedVariables false
theorem seg_len (u:List Int) (j n:Nat) (h:j+n≤u.length):((u.take (j+n)).drop j).length=n:=by
 rw [List.length_drop,List.length_take,Nat.min_eq_left h];omega
theorem C3 (u r:List Int) (j n:Nat) (h:j+n≤u.length) (hr:r.length=n) :
 ((u.take j++r++u.drop (j+n)).take (j+n)).drop j=r∧(u.take j++r++u.drop (j+n)).take j=u.take j∧(u.take j++r++u.drop (j+n)).drop (j+n)=u.drop (j+n)∧(u.take j++r++u.drop (j+n)).drop j=r++u.drop (j+n)∧(u.take j++r++u.drop (j+n)).length=u.length:=by
 have l1:(u.take j).length=j:=by rw [List.length_take,Nat.min_eq_left (by omega)]
 have l2:(u.take j++r).length=j+n:=by rw [List.length_append,l1,hr]
 refine ⟨?_,?_,?_,?_,?_⟩
 ·rw [List.take_left' l2,List.drop_left' l1]
 ·rw [List.append_assoc,List.take_left' l1]
 ·rw [List.drop_left' l2]
 ·rw [List.append_assoc,List.drop_left' l1]
 ·rw [List.length_append,l2,List.length_drop];omega
theorem seg_vl (u:List Int) (j n:Nat) (h:j+n≤u.length):vl WW (u.drop j)=vl WW ((u.take (j+n)).drop j)+WW ^ n*vl WW (u.drop (j+n)):=by
 have e:=iD WW (u.drop j) n (by rw [List.length_drop];omega)
 rw [List.drop_drop] at e
 rw [e,List.drop_take,Nat.add_sub_cancel_left]
theorem dm_digit {q v u:List Int} {s top next:Int} {nn j:Nat} {X M qd g:Int} (hn:j+nn<68719476736) (hv:v.length=nn) (dv:Dg WW v) (eM:vl WW v=M) (hju:j+nn+1≤u.length) (hjq:j<q.length) (du:Dg WW u)
 (eX:vl WW (u.drop j)=X) (hz:vl WW (u.drop (j+(nn+1)))=0) (hq:qd*M≤X) (hq2:X<(qd+1)*M) (hqW:qd<4294967296) (hq0:0≤qd) (g1:qd≤g) (g2:g≤qd+1) (g3:g<4294967296) :
 ∃ u2,u2.length=u.length∧Dg WW u2∧u2.take j=u.take j∧vl WW (u2.drop j)=X-qd*M∧∀ R,Ev (fun k=>aI.l0 k (q.set j qd) s v u2 (nn:Int) top next ((j:Int)-1)) R→Ev (fun k=>aI.j3 k q s v u (nn:Int) top next (j:Int) g) R:=by
 have sl:=seg_len u j (nn+1) hju
 have sv:=seg_vl u j (nn+1) hju
 rw [hz,Int.mul_zero,Int.add_zero,eX] at sv
 have ds:Dg WW ((u.take (j+(nn+1))).drop j):=(du.take _).drop _
 obtain ⟨f,r,r1,r2,r3,r4⟩:=sV (u:=(u.take (j+(nn+1))).drop j) (v:=v) (g:=g) (by omega) (by omega) ds dv ⟨by omega,g3⟩
 rw [sl] at r3 r4
 rw [← sv,eM] at r4
 have b0:=bV aM r2
 have b1:=iR aM r2
 rw [r3] at b1
 obtain ⟨p1,p2,p3,p4,p5⟩:=C3 u r j (nn+1) hju r3
 have hb2:((((j+nn:Nat):Int)+1)).toNat=j+(nn+1):=by omega
 have hsub:Ev (fun k=>cS.f k u (j:Int) (((j+nn:Nat):Int)+1) v g) (f,u.take j++r++u.drop (j+(nn+1))):=by
  unfold cS.f
  rw [hb2,Int.toNat_natCast]
  exact Ev.bind r1 (evs _)
 have eqd:qd % 4294967296=qd:=by omega
 have hM1:(qd+1)*M=qd*M+M:=by grind
 have dall:∀ z:List Int,Dg WW z→Dg WW (u.take j++z++u.drop (j+(nn+1))):=fun z hz=>((du.take _).append hz).append (du.drop _)
 cases f
 ·have eg:g=qd:=by
   rcases Int.lt_or_le qd g with c | c
   ·exfalso
    have:g=qd+1:=by omega
    subst this
    simp only [Bool.false_eq_true,if_false] at r4
    omega
   ·omega
  subst eg
  simp only [Bool.false_eq_true,if_false,Int.add_zero] at r4
  refine ⟨_,p5,dall r r2,p2,?_,fun R hR=>?_⟩
  ·rw [p4,iS,hz,Int.mul_zero,Int.add_zero,r4]
  ·refine Ev.step (fun k=>by rw [aI.j3]) ?_
   rw [show (j:Int)+(nn:Int)=((j+nn:Nat):Int) by omega,w64 (x:=((j+nn:Nat):Int)) (by omega) (by omega),w64 (x:=((j+nn:Nat):Int)+1) (by omega) (by omega),w64 (x:=(j:Int)-1) (by omega) (by omega),eqd,Int.toNat_natCast]
   exact evp (by omega) (evp (by omega) (evp (by omega) (Ev.bind hsub (evn (by simp) (evp (by omega) hR)))))
 ·simp only [if_true] at r4
  have eg:g=qd+1:=by
   rcases Int.lt_or_le qd g with c | c
   ·omega
   ·exfalso
    have:g=qd:=by omega
    subst this
    omega
  subst eg
  rw [hM1] at r4
  obtain ⟨z,e,z1,z2,z3,z4,z5⟩:=tN (u:=r) (v:=v) (by omega) (by omega) r2 dv
  rw [r3,eM,r4] at z4
  rw [r3] at z3
  have c0:=bV aM z2
  have c1:=iR aM z2
  rw [z3] at c1
  have hMW:M<WW ^ (nn+1):=by
   have h1:=iR aM dv
   have h2:=eY (B:=WW) (by decide) (show nn≤nn+1 by omega)
   rw [hv,eM] at h1
   omega
  have hz3:vl WW z=X-qd*M:=by
   generalize WW ^ (nn+1)=Q at *
   have he:e=1:=by
    rcases Int.lt_or_le e 1 with c | c
    ·have:e=0:=by omega
     subst this
     omega
    ·rcases Int.lt_or_le 1 e with c' | c'
     ·have:2*Q≤e*Q:=Int.mul_le_mul_of_nonneg_right (by omega) (by omega)
      omega
     ·omega
   subst he
   omega
  obtain ⟨t1,t2,t3,t4,t5⟩:=C3 u z j (nn+1) hju z3
  have hres:Ev (fun k=>df.f k (u.take j++r++u.drop (j+(nn+1))) (j:Int) (((j+nn:Nat):Int)+1) v) (u.take j++z++u.drop (j+(nn+1))):=by
   unfold df.f
   rw [hb2,Int.toNat_natCast,p1,p2,p3]
   exact Ev.bind z1 (evs _)
  refine ⟨_,t5,dall z z2,t2,?_,fun R hR=>?_⟩
  ·rw [t4,iS,hz,Int.mul_zero,Int.add_zero,hz3]
  ·refine Ev.step (fun k=>by rw [aI.j3]) ?_
   rw [show (j:Int)+(nn:Int)=((j+nn:Nat):Int) by omega,w64 (x:=((j+nn:Nat):Int)) (by omega) (by omega),w64 (x:=((j+nn:Nat):Int)+1) (by omega) (by omega),w64 (x:=(j:Int)-1) (by omega) (by omega),show qd+1-1=qd by omega,u64 (x:=qd) (by omega) (by omega),eqd,Int.toNat_natCast]
   exact evp (by omega) (evp (by omega) (evp (by omega) (Ev.bind hsub (evp rfl (Ev.bind hres (evp (by omega) hR))))))
theorem three {u:List Int} (du:Dg WW u) (j nn:Nat) (hnn:2≤nn) (hju:j+nn+1≤u.length) (hz:vl WW (u.drop (j+(nn+1)))=0) :
 ∃ low,0≤low∧low<WW ^ (nn-2)∧vl WW (u.drop j)=low+(((rd u ((j+nn:Nat):Int))*WW+rd u ((j+nn-1:Nat):Int))*WW+rd u ((j+nn-2:Nat):Int))*WW ^ (nn-2):=by
 have e:=iD WW (u.drop j) (nn-2) (by rw [List.length_drop];omega)
 rw [List.drop_drop] at e
 have d1:Dg WW ((u.drop j).take (nn-2)):=(du.drop _).take _
 have l1:=iR aM d1
 rw [List.length_take,List.length_drop,Nat.min_eq_left (by omega)] at l1
 refine ⟨_,bV aM d1,l1,?_⟩
 rw [e,fI u (j+(nn-2)) (by omega),vl,fI u (j+(nn-2)+1) (by omega),vl,fI u (j+(nn-2)+1+1) (by omega),vl]
 rw [show j+(nn-2)+1+1+1=j+(nn+1) by omega,hz,show j+(nn-2)+1+1=j+nn by omega,show j+(nn-2)+1=j+nn-1 by omega,show j+(nn-2)=j+nn-2 by omega]
 grind
theorem two {v:List Int} (dv:Dg WW v) (nn:Nat) (hnn:2≤nn) (hv:v.length=nn) :
 ∃ low,0≤low∧low<WW ^ (nn-2)∧vl WW v=low+(rd v ((nn-1:Nat):Int)*WW+rd v ((nn-2:Nat):Int))*WW ^ (nn-2):=by
 have e:=iD WW v (nn-2) (by omega)
 have d1:Dg WW (v.take (nn-2)):=dv.take _
 have l1:=iR aM d1
 rw [List.length_take,Nat.min_eq_left (by omega)] at l1
 refine ⟨_,bV aM d1,l1,?_⟩
 rw [e,fI v (nn-2) (by omega),vl,fI v (nn-2+1) (by omega),vl]
 rw [show nn-2+1+1=nn by omega,List.drop_eq_nil_of_le (by omega),vl,show nn-2+1=nn-1 by omega]
 grind
end Go.Proofs.YtjimdhlmeebjeaaGreat.P
end
section
namespace Go.Proofs.YtjimdhlmeebjeaaGreat.P
open Go.RowKit Go.Proofs.YtjimdhlmeebjeaaGreatW.PrintWords Go.Proofs.YtjimdhlmeebjeaaGreatW.PrintLast Go.Proofs.YtjimdhlmeebjeaaGreatW.PrintMore
set_option linter.unusedVariables false
theorem alg_inv {ut Pj X M W qd vq N vu:Int} (h1:vu=ut+Pj*X) (h2:vu+M*((Pj*W)*vq)=N):(ut+Pj*(X-qd*M))+M*(Pj*(qd+W*vq))=N:=by grind
theorem pU {a b P:Int} (h:a*P<b*P) (hP:0<P):a<b:=Int.lt_of_mul_lt_mul_right h (Int.le_of_lt hP)
theorem dm_l0 {v:List Int} {s nn:Nat} {M top next N:Int} (hs:s<32) (hn2:2≤nn) (hv:v.length=nn) (dv:Dg WW v) (eM:vl WW v=M) (et:rd v ((nn-1:Nat):Int)=top) (en:rd v ((nn-2:Nat):Int)=next) (ht:2147483648≤top) (d:Nat) :
 ∀ (i:Nat) (q u:List Int),i=d→i+nn≤u.length→u.length<68719476736→q.length=u.length-nn→Dg WW u→Dg WW (q.drop i)→vl WW (u.drop i)<M→vl WW u+M*(WW ^ i*vl WW (q.drop i))=N →
 ∃ q' r',Ev (fun k=>aI.l0 k q (s:Int) v u (nn:Int) top next ((i:Int)-1)) (q',r')∧Can WW q' (N / M)∧Can WW r' (N % M / 2 ^ s):=by
 have w0:(0:Int)<WW ^ (nn-2):=jl aM _
 have bt:=dZ dv ((nn-1:Nat):Int) (by omega) (by omega)
 have bn:=dZ dv ((nn-2:Nat):Int) (by omega) (by omega)
 rw [et,dx] at bt
 rw [en,dx] at bn
 obtain ⟨ml,ml0,ml1,hMe⟩:=two dv nn hn2 hv
 rw [et,en,eM] at hMe
 generalize hP:WW ^ (nn-2)=P at *
 have hMl:(top*WW+next)*P≤M:=by omega
 have hMu':M<(top*WW+next+1)*P:=by rw [Int.add_mul _ 1 P,Int.one_mul];omega
 have hM2:WW*P≤M:=by
  have:WW*P≤(top*WW+next)*P:=Int.mul_le_mul_of_nonneg_right (by rw [dx];omega) (by omega)
  omega
 have hMpos:0<M:=by
  have:0<WW*P:=Int.mul_pos aM w0
  omega
 induction d with
 | zero =>
  rintro i q u rfl h1 h2 h3 h4 h5 h6 h7
  rw [List.drop_zero] at h5 h6 h7
  rw [Int.pow_zero,Int.one_mul] at h7
  have b0:=bV aM h4
  have e1:N / M=vl WW q:=by rw [← h7,Int.add_mul_ediv_left _ _ (by omega),Int.ediv_eq_zero_of_lt b0 h6,Int.zero_add]
  have e2:N % M=vl WW u:=by rw [← h7,Int.add_mul_emod_self_left,Int.emod_eq_of_lt b0 h6]
  obtain ⟨q',q1,q2,q3⟩:=fx (l:=q) (by omega) h5
  obtain ⟨x,x1,x2,x3⟩:=fx (l:=u) (by omega) h4
  obtain ⟨y,y1,y2,y3⟩:=pS s (by omega) (by omega) x2
  refine ⟨q',y,?_,by rw [e1];exact q2,by rw [e2];exact y2⟩
  refine Ev.step (fun k=>by rw [aI.l0]) ?_
  exact evn (by omega) (Ev.bind q1 (Ev.bind x1 (Ev.bind y1 (evs _))))
 | succ d ih =>
  rintro i q u rfl h1 h2 h3 h4 h5 h6 h7
  have u0:=dZ h4 (d:Int) (by omega) (by omega)
  have eX:vl WW (u.drop d)=rd u (d:Int)+WW*vl WW (u.drop (d+1)):=by rw [fI u d (by omega),vl]
  have nx:=bV aM (h4.drop (d+1))
  have hXM:vl WW (u.drop d)<WW*M:=by
   have:WW*(vl WW (u.drop (d+1))+1)≤WW*M:=Int.mul_le_mul_of_nonneg_left (by omega) (by decide)
   rw [Int.mul_add,Int.mul_one] at this
   omega
  have hX0:=bV aM (h4.drop d)
  have hMW:M<WW ^ nn:=by
   have:=iR aM dv
   rw [hv,eM] at this
   exact this
  have hz:vl WW (u.drop (d+(nn+1)))=0:=by
   have sv:=seg_vl u d (nn+1) (by omega)
   have g0:=bV aM (h4.drop (d+(nn+1)))
   have g1:=bV aM ((h4.take (d+(nn+1))).drop d)
   rcases Int.lt_or_le 0 (vl WW (u.drop (d+(nn+1)))) with c | c
   ·exfalso
    have hp:(0:Int)<WW ^ (nn+1):=jl aM _
    have a1:WW ^ (nn+1)*1≤WW ^ (nn+1)*vl WW (u.drop (d+(nn+1))):=Int.mul_le_mul_of_nonneg_left (by omega) (by omega)
    have a2:WW*M<WW*WW ^ nn:=Int.mul_lt_mul_of_pos_left hMW aM
    rw [Int.pow_succ,Int.mul_comm (WW ^ nn) WW] at a1 sv
    omega
   ·omega
  obtain ⟨lo,lo0,lo1,eZ⟩:=three h4 d nn hn2 (by omega) hz
  rw [hP] at eZ lo1
  have b2:=dZ h4 ((d+nn:Nat):Int) (by omega) (by omega)
  have b1:=dZ h4 ((d+nn-1:Nat):Int) (by omega) (by omega)
  have b0:=dZ h4 ((d+nn-2:Nat):Int) (by omega) (by omega)
  rw [dx] at b2 b1 b0
  have hut:=iD WW u d (by omega)
  generalize hX:vl WW (u.drop d)=X at *
  generalize hx2:rd u ((d+nn:Nat):Int)=x2 at *
  generalize hx1:rd u ((d+nn-1:Nat):Int)=x1 at *
  generalize hx0:rd u ((d+nn-2:Nat):Int)=x0 at *
  have hXl:((x2*WW+x1)*WW+x0)*P≤X:=by omega
  have hXu:X<((x2*WW+x1)*WW+x0+1)*P:=by rw [Int.add_mul _ 1 P,Int.one_mul];omega
  have hq0:0≤X / M:=Int.ediv_nonneg hX0 (by omega)
  have hqd:=Int.mul_ediv_add_emod X M
  have hqr:=Int.emod_nonneg X (show M≠0 by omega)
  have hqs:=Int.emod_lt_of_pos X hMpos
  have hq:X / M*M≤X:=by rw [Int.mul_comm];omega
  have hq2:X<(X / M+1)*M:=by rw [Int.add_mul,Int.one_mul,Int.mul_comm];omega
  have hqW:X / M<4294967296:=Int.ediv_lt_of_lt_mul hMpos (by rw [← dx];exact hXM)
  generalize hQ:X / M=qd at *
  have hhi:x2*WW+x1≤top*WW+next:=by
   have a1:((x2*WW+x1)*WW+x0)*P<(WW*(top*WW+next+1))*P:=by
    have:WW*M<WW*((top*WW+next+1)*P):=Int.mul_lt_mul_of_pos_left hMu' aM
    rw [Int.mul_assoc]
    omega
   have a2:=pU a1 w0
   rw [dx] at a2 ⊢
   omega
  have hh0:0≤x2*WW+x1:=by rw [dx];omega
  have hor:=or64 b2 b1
  rw [← dx] at hor
  generalize hH:x2*WW+x1=high at *
  have d1:=Int.mul_ediv_add_emod high top
  have d2:=Int.emod_nonneg high (show top≠0 by omega)
  have d3:=Int.emod_lt_of_pos high (show 0<top by omega)
  have d0:0≤high / top:=Int.ediv_nonneg hh0 (by omega)
  have gq:qd≤high / top:=by
   refine Int.le_ediv_of_mul_le (by omega) ?_
   have a1:qd*((top*WW+next)*P)≤qd*M:=Int.mul_le_mul_of_nonneg_left hMl hq0
   have a2:(qd*(top*WW+next))*P<(high*WW+x0+1)*P:=by rw [Int.mul_assoc];omega
   have a3:=pU a2 w0
   have a4:qd*(top*WW+next)=(qd*top)*WW+qd*next:=by grind
   have a5:0≤qd*next:=Int.mul_nonneg hq0 bn.1
   rw [dx] at a3 a4
   omega
  have gW:high / top≤4294967297∧(high / top=4294967297→high % top+top<4294967296):=by
   have a1:top*(high / top)≤top*WW+next:=by omega
   constructor
   ·rcases Int.lt_or_le 4294967297 (high / top) with c | c
    ·exfalso
     have:top*4294967298≤top*(high / top):=Int.mul_le_mul_of_nonneg_left (by omega) (by omega)
     rw [dx] at a1
     omega
    ·exact c
   ·intro c
    rw [c] at d1
    rw [dx] at hhi
    omega
  obtain ⟨g,g1,g2,g3,g4⟩:=dm_guess (q:=q) (v:=v) (u:=u) (s:=(s:Int)) (nn:=nn) (j:=d) (X:=X) (M:=M) (P:=P) (top:=top) (next:=next) (x0:=x0) (high:=high) (qd:=qd) (by omega) hn2 (by omega) hx0 (by omega) bt.2 bn.1 bn.2 b0.1 b0.2 hMl (by omega) hM2 hXl hXu w0 hq hq2 hqW hq0 _ (high / top) (high % top) rfl (by rw [Int.mul_comm];exact d1) d2 (by omega) gq gW.1 gW.2
  obtain ⟨u2,v1,v2,v3,v4,v5⟩:=dm_digit (q:=q) (v:=v) (u:=u) (s:=(s:Int)) (top:=top) (next:=next) (nn:=nn) (j:=d) (X:=X) (M:=M) (qd:=qd) (g:=g) (by omega) hv dv eM (by omega) (by omega) h4 hX hz hq hq2 hqW hq0 g1 g2 g3
  have hu2:=iD WW u2 d (by omega)
  rw [v3,v4] at hu2
  obtain ⟨q',r',e1,e2⟩:=ih d (q.set d qd) u2 rfl (by omega) (by omega) (by rw [List.length_set,v1];exact h3) v2
   (by rw [e8 _ _ _ (by omega)];exact Dg.mk hq0 (by rw [dx];exact hqW) h5)
   (by rw [v4];rw [Int.add_mul,Int.one_mul] at hq2;omega)
   (by
    rw [e8 _ _ _ (by omega),vl,hu2]
    rw [Int.pow_succ] at h7
    exact alg_inv hut h7)
  refine ⟨q',r',?_,e2⟩
  refine Ev.step (fun k=>by rw [aI.l0]) ?_
  have hgu:high / top<18446744073709551616:=by omega
  have fin:=g4 _ (v5 _ e1)
  rw [show (((d+1:Nat):Int)-1)=(d:Int) by omega,show (d:Int)+(nn:Int)=((d+nn:Nat):Int) by omega,w64 (x:=((d+nn:Nat):Int)) (by omega) (by omega),show ((d+nn:Nat):Int)-1=((d+nn-1:Nat):Int) by omega,w64 (x:=((d+nn-1:Nat):Int)) (by omega) (by omega),hx2,hx1,u64 (x:=x2) (by omega) (by omega),u64 (x:=x1) (by omega) (by omega),u64 (x:=x2*4294967296) (by omega) (by omega),← dx,hor,fH hh0,fS hh0,u64 (x:=high / top) d0 hgu]
  clear hor
  exact evp (by omega) (evp (by omega) (evp (by omega) (evp (by omega) (evp (by omega) (evn (by omega) fin)))))
end Go.Proofs.YtjimdhlmeebjeaaGreat.P
end
section
namespace Go.Proofs.YtjimdhlmeebjeaaGreat.P
open Go.RowKit Go.Proofs.YtjimdhlmeebjeaaGreatW.PrintWords Go.Proofs.YtjimdhlmeebjeaaGreatW.PrintLast Go.Proofs.YtjimdhlmeebjeaaGreatW.PrintMore
set_option linter.unusedVariables false
theorem cpy_zero {t:List Int} {n:Nat} (h:t.length≤n) (dt:Dg WW t):(cpy (List.replicate n 0) t).length=n∧Dg WW (cpy (List.replicate n 0) t)∧vl WW (cpy (List.replicate n 0) t)=vl WW t:=by
 have e:cpy (List.replicate n 0) t=t++List.replicate (n-t.length) 0:=by
  unfold cpy
  rw [List.length_replicate,Nat.min_eq_left h,List.take_length,List.drop_replicate]
 rw [e]
 refine ⟨by simp;omega,dt.append (Dg.rep aM _),?_⟩
 rw [iS,zF,Int.mul_zero,Int.add_zero]
theorem two_le31 {s:Nat} (h:s≤31):(2:Int) ^ s≤2147483648:=by
 have h2:(2:Int) ^ s≤2 ^ 31:=by
  have:2 ^ s≤2 ^ 31:=Nat.pow_le_pow_right (by decide) h
  exact_mod_cast this
 exact Int.le_trans h2 (by decide)
theorem normed {b:List Int} {m:Int} {L:Nat} (hb:Can WW b m) (hp:0<b.length) (h1:rd b ((b.length:Int)-1)<2 ^ L) (h2:2 ^ (L-1)≤rd b ((b.length:Int)-1)) (hL:1≤L) (hL2:L≤32) :
 m*2 ^ (32-L)<WW ^ b.length∧2147483648*WW ^ (b.length-1)≤m*2 ^ (32-L):=by
 have lv:=tc (a:=b) hp
 rw [hb.2.2] at lv
 have hd:=hb.1.take (b.length-1)
 have l0:=bV aM hd
 have l1:=iR aM hd
 rw [List.length_take,Nat.min_eq_left (by omega)] at l1
 have hP:(0:Int)<WW ^ (b.length-1):=jl aM _
 have hs:=two_pos (32-L)
 have e1:WW ^ b.length=(2 ^ L*WW ^ (b.length-1))*2 ^ (32-L):=by
  have:b.length=(b.length-1)+1:=by omega
  rw [this,Int.pow_succ,Nat.add_sub_cancel,Int.mul_comm (2 ^ L),Int.mul_assoc,← Int.pow_add,show L+(32-L)=32 by omega];rfl
 have e2:2147483648*WW ^ (b.length-1)=(2 ^ (L-1)*WW ^ (b.length-1))*2 ^ (32-L):=by
  rw [Int.mul_comm (2 ^ (L-1)),Int.mul_assoc,← Int.pow_add,show L-1+(32-L)=31 by omega,Int.mul_comm];rfl
 generalize rd b ((b.length:Int)-1)=x at *
 have m1:(x+1)*WW ^ (b.length-1)≤2 ^ L*WW ^ (b.length-1):=Int.mul_le_mul_of_nonneg_right (by omega) (by omega)
 have m2:2 ^ (L-1)*WW ^ (b.length-1)≤x*WW ^ (b.length-1):=Int.mul_le_mul_of_nonneg_right h2 (by omega)
 rw [Int.add_mul] at m1
 rw [e1,e2]
 exact ⟨Int.mul_lt_mul_of_pos_right (by omega) hs,Int.mul_le_mul_of_nonneg_right (by omega) (by omega)⟩
theorem kM {a b:List Int} {n m:Int} (hn:a.length<17179869184) (ha:Can WW a n) (hb:Can WW b m) (hm:0<m) :
 ∃ q r,Ev (fun k=>aI.f k a b) (q,r)∧Can WW q (n / m)∧Can WW r (n % m):=by
 have n0:=ha.gu aM
 have lb:0<b.length:=by
  rcases Nat.eq_zero_or_pos b.length with c | c
  ·have:=(hb.ji aM).1 c
   omega
  ·exact c
 have hc:=pT (by omega) ha hb
 by_cases c1:n<m
 ·have e:fv n m = -1:=by unfold fv;rw [if_pos c1]
  rw [e] at hc
  refine ⟨[],a,?_,?_,?_⟩
  ·unfold aI.f
   refine Ev.bind hc (evp (by omega) (evp (by simp;omega) ?_))
   exact evs _
  ·rw [Int.ediv_eq_zero_of_lt n0 c1];exact Can.zero _
  ·rw [Int.emod_eq_of_lt n0 c1];exact ha
 ·have hcm:¬ fv n m<0:=by unfold fv;rw [if_neg c1];split<;>omega
  have hba:b.length≤a.length:=kz ha hb (by omega)
  have bx:=dZ hb.1 ((b.length:Int)-1) (by omega) (by omega)
  have bz:=hb.2.1.rd lb
  rw [dx] at bx
  by_cases c2:b.length=1
  ·have e1:m=rd b 0:=by
    have:=tc (a:=b) lb
    rw [hb.2.2,c2] at this
    simpa [vl] using this
   rw [c2] at bx
   have bx':0≤m∧m<4294967296:=by rw [e1];exact bx
   obtain ⟨q,q1,q2,q3⟩:=tP (by omega) ha (K:=m) ⟨by omega,bx'.2⟩
   have r0:=Int.emod_nonneg n (show m≠0 by omega)
   have r1:=Int.emod_lt_of_pos n hm
   obtain ⟨r,r2,r3⟩:=fy (a:=n % m) r0 (by omega)
   refine ⟨q,r,?_,q2,r3⟩
   unfold aI.f
   refine Ev.bind hc (evn hcm (evp (by omega) (evp (by omega) ?_)))
   rw [← e1]
   refine Ev.bind q1 ?_
   rw [u64 (x:=n % m) (by omega) (by omega)]
   exact Ev.bind r2 (evs _)
  ·obtain ⟨L,z1,z2,z3,z4⟩:=DY bx.1 bx.2
   obtain ⟨z5,z6⟩:=z4 bz
   obtain ⟨M1,M2⟩:=normed hb lb z3 z5 z6 z2
   have hs:=two_pos (32-L)
   have hs31:=two_le31 (s:=32-L) (by omega)
   obtain ⟨v,v1,v2,v3⟩:=uC (32-L) (by omega) hb
   obtain ⟨t,t1,t2,t3⟩:=uC (32-L) (by omega) ha
   have hvl:v.length=b.length:=by
    have h1:=v2.fm aY M1
    have h2:WW ^ (b.length-1)≤m*2 ^ (32-L):=by
     have:(0:Int)<WW ^ (b.length-1):=jl aM _
     omega
    have h3:=v2.len_ge aY h2
    omega
   have htop:2147483648≤rd v ((b.length-1:Nat):Int):=by
    have lv:=tc (a:=v) (by omega)
    rw [v2.2.2,hvl,show (b.length:Int)-1=((b.length-1:Nat):Int) by omega] at lv
    have hd:=v2.1.take (b.length-1)
    have l1:=iR aM hd
    rw [List.length_take,Nat.min_eq_left (by omega)] at l1
    have hP:(0:Int)<WW ^ (b.length-1):=jl aM _
    have h3:2147483648*WW ^ (b.length-1)<(rd v ((b.length-1:Nat):Int)+1)*WW ^ (b.length-1):=by
     rw [Int.add_mul];omega
    have:=pU h3 hP
    omega
   obtain ⟨u1,u2,u3⟩:=cpy_zero (t:=t) (n:=a.length+1) (by omega) t2.1
   generalize hu:cpy (List.replicate (a.length+1) 0) t=u at *
   rw [t2.2.2] at u3
   have htl:=dZ v2.1 ((b.length-1:Nat):Int) (by omega) (by omega)
   have hnl:=dZ v2.1 ((b.length-2:Nat):Int) (by omega) (by omega)
   rw [dx] at htl hnl
   have hlow:vl WW (u.drop (a.length+1-b.length))<m*2 ^ (32-L):=by
    rcases Int.lt_or_le (vl WW (u.drop (a.length+1-b.length))) (m*2 ^ (32-L)) with c | c
    ·exact c
    ·exfalso
     have hd:=iD WW u (a.length+1-b.length) (by omega)
     rw [u3] at hd
     have l0:=bV aM (u2.take (a.length+1-b.length))
     have hPi:(0:Int)<WW ^ (a.length+1-b.length):=jl aM _
     have a1:WW ^ (a.length+1-b.length)*(2147483648*WW ^ (b.length-1))≤WW ^ (a.length+1-b.length)*vl WW (u.drop (a.length+1-b.length)):=Int.mul_le_mul_of_nonneg_left (by omega) (by omega)
     have a2:WW ^ (a.length+1-b.length)*(2147483648*WW ^ (b.length-1))=2147483648*WW ^ a.length:=by
      rw [Int.mul_left_comm,← Int.pow_add,show a.length+1-b.length+(b.length-1)=a.length by omega]
     have a3:n*2 ^ (32-L)<WW ^ a.length*2 ^ (32-L):=Int.mul_lt_mul_of_pos_right (ha.lt aM) hs
     have hPa:(0:Int)<WW ^ a.length:=jl aM _
     have a4:WW ^ a.length*2 ^ (32-L)≤WW ^ a.length*2147483648:=Int.mul_le_mul_of_nonneg_left hs31 (by omega)
     omega
   obtain ⟨q,r,r1,r2,r3⟩:=dm_l0 (s:=32-L) (nn:=b.length) (v:=v) (N:=n*2 ^ (32-L)) (by omega) (by omega) hvl v2.1 v2.2.2 rfl rfl htop (a.length+1-b.length) (a.length+1-b.length) (List.replicate (a.length+1-b.length) 0) u rfl (by omega) (by omega) (by rw [List.length_replicate,u1]) u2
    (by rw [List.drop_eq_nil_of_le (by simp)];exact Dg.nil _) hlow (by rw [List.drop_eq_nil_of_le (by simp),vl,Int.mul_zero,Int.mul_zero,Int.add_zero];exact u3)
   rw [Int.mul_ediv_mul_of_pos_left _ _ hs] at r2
   rw [Int.mul_comm n,Int.mul_comm m,Int.mul_emod_mul_of_pos _ _ hs,Int.mul_ediv_cancel_left _ (by omega)] at r3
   refine ⟨q,r,?_,r2,r3⟩
   unfold aI.f
   refine Ev.bind hc (evn hcm (evn (by omega) ?_))
   rw [w64 (x:=(b.length:Int)-1) (by omega) (by omega),w64 (x:=(a.length:Int)+1) (by omega) (by omega)]
   refine evp (by omega) (evp (by omega) (evb z1 (Ev.bind v1 (evp (by omega) (evp (by omega) (evb rfl (Ev.bind t1 ?_)))))))
   rw [show ((a.length:Int)+1).toNat=a.length+1 by omega,hu,List.length_replicate,hvl,show ((a.length+1:Nat):Int)-(b.length:Int)=((a.length+1-b.length:Nat):Int) by omega,w64 (x:=((a.length+1-b.length:Nat):Int)) (by omega) (by omega),w64 (x:=((a.length+1-b.length:Nat):Int)-1) (by omega) (by omega),show (b.length:Int)-1=((b.length-1:Nat):Int) by omega,show (b.length:Int)-2=((b.length-2:Nat):Int) by omega,w64 (x:=((b.length-1:Nat):Int)) (by omega) (by omega),w64 (x:=((b.length-2:Nat):Int)) (by omega) (by omega),u64 (x:=rd v ((b.length-1:Nat):Int)) (by omega) (by omega),u64 (x:=rd v ((b.length-2:Nat):Int)) (by omega) (by omega),Int.toNat_natCast]
   exact evp (by omega) (evp (by omega) (evp (by omega) (evp (by omega) (evp (by omega) (evp (by omega) r1)))))
end Go.Proofs.YtjimdhlmeebjeaaGreat.P
end
section
namespace Go.Proofs.YtjimdhlmeebjeaaGreat.P
open Go.RowKit Go.Proofs.YtjimdhlmeebjeaaGreatW.PrintWords Go.Proofs.YtjimdhlmeebjeaaGreatW.PrintLast Go.Proofs.YtjimdhlmeebjeaaGreatW.PrintMore
set_option linter.unusedVariables false
theorem dg_wf {l:List Int} (h:∀ x∈l,(Lit.int .u32 x).wf=true):Dg WW l:=by
 intro x hx
 have h1:=h x hx
 have h2:IntKind.u32.min=0:=rfl
 have h3:IntKind.u32.max=4294967295:=rfl
 simp only [Lit.wf,Bool.and_eq_true,decide_eq_true_eq,h2,h3] at h1
 rw [dx]
 omega
end Go.Proofs.YtjimdhlmeebjeaaGreat.P
end
section
namespace Go.Proofs.YtjimdhlmeebjeaaGreat.P
open Go.RowKit Go.Proofs.YtjimdhlmeebjeaaGreatW.PrintWords Go.Proofs.YtjimdhlmeebjeaaGreatW.PrintLast Go.Proofs.YtjimdhlmeebjeaaGreatW.PrintMore
set_option linter.unusedVariables false
theorem yB {a:List Int} (hl:a.length≤4) (ha:Dg RR a) (d:Nat):∀ (i:Nat) (x:Int),i=d→i≤a.length→x=vl RR (a.drop i)→Ev (fun k=>aP.l0 k a x ((i:Int)-1)) (vl RR a,true):=by
 have bd:∀ i:Nat,i≤a.length→0≤vl RR (a.drop i)∧vl RR (a.drop i)<10000000000000000:=by
  intro i hi
  have h1:=iR bj (ha.drop i)
  have h2:=eY (B:=RR) (by decide) (show (a.drop i).length≤4 by rw [List.length_drop];omega)
  have h3:RR ^ 4=10000000000000000:=by decide
  exact ⟨bV bj (ha.drop i),by omega⟩
 induction d with
 | zero =>
  rintro i x rfl h1 h2
  rw [List.drop_zero] at h2
  subst h2
  refine Ev.step (fun k=>by rw [aP.l0]) ?_
  exact evn (by omega) (evs _)
 | succ d ih =>
  rintro i x rfl h1 h2
  have hx:=dZ ha (d:Int) (by omega) (by omega)
  rw [e9] at hx
  have b1:=bd (d+1) (by omega)
  have b0:=bd d (by omega)
  have e:x*10000+rd a (d:Int)=vl RR (a.drop d):=by
   rw [h2,fI a d (by omega),vl,e9];omega
  have next:=ih d (x*10000+rd a (d:Int)) rfl (by omega) e
  refine Ev.step (fun k=>by rw [aP.l0]) ?_
  rw [show (((d+1:Nat):Int)-1)=(d:Int) by omega,w64 (x:=x*10000) (by omega) (by omega),w64 (x:=x*10000+rd a (d:Int)) (by omega) (by omega),w64 (x:=(d:Int)-1) (by omega) (by omega)]
  exact evp (by omega) (evp (by omega) (evp (by omega) next))
theorem kI {a:List Int} {n:Int} (hl:a.length<4611686018427387904) (ha:Can RR a n):(a.length≤4→Ev (fun k=>aP.f k a) (n,true))∧(4<a.length→Ev (fun k=>aP.f k a) (0,false)):=by
 constructor
 ·intro h
  have:=yB h ha.1 a.length a.length 0 rfl (Nat.le_refl _) (by rw [List.drop_length];rfl)
  rw [ha.2.2] at this
  unfold aP.f
  rw [w64 (x:=(a.length:Int)-1) (by omega) (by omega)]
  exact evn (by omega) this
 ·intro h
  unfold aP.f
  exact evp (by omega) (evs _)
theorem AS {r b:List Int} {x m:Int} (hr:r.length<34359738368) (hb:b.length<34359738368) (cr:Can RR r x) (cb:Can RR b m) (hm:0<m) (hx:x<m*10000) (c:Nat):∀ q:Int,(10000-q).toNat≤c→0≤q→q≤9999→m*q≤x→Ev (fun k=>ak.l3 k r b q) (x / m):=by
 have fin:∀ q:Int,0≤q→m*q≤x→x<m*(q+1)→x / m=q:=by
  intro q h0 h1 h2
  have d1:=Int.mul_ediv_add_emod x m
  have d2:=Int.emod_nonneg x (show m≠0 by omega)
  have d3:=Int.emod_lt_of_pos x hm
  have l1:m*q<m*(x / m+1):=by rw [Int.mul_add];omega
  have l2:m*(x / m)<m*(q+1):=by omega
  have l3:=Int.lt_of_mul_lt_mul_left l1 (Int.le_of_lt hm)
  have l4:=Int.lt_of_mul_lt_mul_left l2 (Int.le_of_lt hm)
  omega
 induction c with
 | zero=>intro q h1 h2 h3 h4;omega
 | succ c ih =>
  intro q h1 h2 h3 h4
  refine Ev.step (fun k=>by rw [ak.l3]) ?_
  rw [w64 (x:=q+1) (by omega) (by omega)]
  by_cases c1:q+1<10000
  ·obtain ⟨s,s1,s2,s3⟩:=jt (k0:=q+1) (c0:=0) (by omega) cb ⟨by omega,by omega⟩ ⟨by omega,by omega⟩
   rw [Int.add_zero] at s2
   have k1:=dC (by omega) s2 cr
   by_cases c2:m*(q+1)≤x
   ·refine evp c1 (Ev.bind s1 (Ev.bind k1 (evp ?_ (ih (q+1) (by omega) (by omega) (by omega) c2))))
    unfold fv;split<;>(try split)<;>omega
   ·rw [fin q h2 h4 (by omega)]
    refine evp c1 (Ev.bind s1 (Ev.bind k1 (evn ?_ (evs _))))
    unfold fv;rw [if_neg (by omega),if_neg (by omega)];omega
  ·have e:q=9999:=by omega
   subst e
   rw [fin 9999 h2 h4 (by omega)]
   exact evn c1 (evs _)
theorem digit_l2 {r b:List Int} {x m:Int} (hr:r.length<34359738368) (hb:b.length<34359738368) (cr:Can RR r x) (cb:Can RR b m) (hm:0<m) (hx:x<m*10000) (c:Nat):∀ q:Int,q.toNat≤c→0≤q→q≤9999→Ev (fun k=>ak.l2 k r b q) (x / m):=by
 have x0:=cr.gu bj
 induction c with
 | zero =>
  intro q h1 h2 h3
  have e:q=0:=by omega
  subst e
  obtain ⟨s,s1,s2,s3⟩:=jt (k0:=0) (c0:=0) (by omega) cb ⟨by omega,by omega⟩ ⟨by omega,by omega⟩
  rw [Int.add_zero,Int.mul_zero] at s2
  have k1:=dC (by omega) s2 cr
  refine Ev.step (fun k=>by rw [ak.l2]) ?_
  refine Ev.bind s1 (Ev.bind k1 (evn ?_ (AS hr hb cr cb hm hx _ 0 (Nat.le_refl _) (by omega) (by omega) (by omega))))
  unfold fv;split<;>(try split)<;>omega
 | succ c ih =>
  intro q h1 h2 h3
  obtain ⟨s,s1,s2,s3⟩:=jt (k0:=q) (c0:=0) (by omega) cb ⟨by omega,by omega⟩ ⟨by omega,by omega⟩
  rw [Int.add_zero] at s2
  have k1:=dC (by omega) s2 cr
  refine Ev.step (fun k=>by rw [ak.l2]) ?_
  rw [w64 (x:=q-1) (by omega) (by omega)]
  by_cases c2:m*q≤x
  ·refine Ev.bind s1 (Ev.bind k1 (evn ?_ (AS hr hb cr cb hm hx _ q (Nat.le_refl _) h2 h3 c2)))
   unfold fv;split<;>(try split)<;>omega
  ·have hq:q≠0:=fun h=>by rw [h,Int.mul_zero] at c2;omega
   refine Ev.bind s1 (Ev.bind k1 (evp ?_ (ih (q-1) (by omega) (by omega) (by omega))))
   unfold fv;rw [if_neg (by omega),if_neg (by omega)];omega
end Go.Proofs.YtjimdhlmeebjeaaGreat.P
end
section
namespace Go.Proofs.YtjimdhlmeebjeaaGreat.P
open Go.RowKit Go.Proofs.YtjimdhlmeebjeaaGreatW.PrintWords Go.Proofs.YtjimdhlmeebjeaaGreatW.PrintLast Go.Proofs.YtjimdhlmeebjeaaGreatW.PrintMore
set_option linter.unusedVariables false
theorem AU {r b:List Int} {x m t low:Int} (hr:r.length<34359738368) (hb:b.length<34359738368) (cr:Can RR r x) (cb:Can RR b m) (hm:0<m) (hx:x<m*10000) (ht:0≤t∧t<4611686018427387904) (hl:0<low):Ev (fun k=>ak.j2 k r b t low) (x / m):=by
 have q0:0≤t / low:=Int.ediv_nonneg ht.1 (by omega)
 have q1:t / low≤t:=Int.ediv_le_self _ ht.1
 refine Ev.step (fun k=>by rw [ak.j2]) ?_
 rw [fH ht.1,w64 (x:=t / low) (by omega) (by omega)]
 refine evn (by omega) (digit_l2 hr hb cr cb hm hx _ _ (Nat.le_refl _) ?_ ?_)
 ·unfold mn;split<;>omega
 ·unfold mn;split<;>omega
theorem digit_l1 {r b:List Int} {x m t:Int} (hr:r.length<34359738368) (hb:b.length<34359738368) (cr:Can RR r x) (cb:Can RR b m) (hm:0<m) (hx:x<m*10000) (ht:0≤t∧t<4611686018427387904):Ev (fun k=>ak.l1 k r b (b.length:Int) t 0 ((b.length:Int)-1)) (x / m):=by
 have lb:b.length≠0:=fun h=>by have:=(cb.ji bj).1 h;omega
 have h1:=dZ cb.1 ((b.length:Int)-1) (by omega) (by omega)
 have z1:=cb.2.1.rd (by omega)
 rw [e9] at h1
 by_cases c:b.length=1
 ·rw [c] at h1 z1
  have e0:((1:Nat):Int)-1=0:=by omega
  rw [e0] at h1 z1
  have hj:=AU hr hb cr cb hm hx ht (low:=rd b 0) (by omega)
  have em:mx 0 (wrap64 (((1:Nat):Int)-2))=0:=by rw [w64 (by omega) (by omega)];unfold mx;split<;>omega
  refine Ev.step (fun k=>by rw [ak.l1]) ?_
  rw [c,em,e0,w64 (x:=0*10000) (by omega) (by omega),w64 (x:=0*10000+rd b 0) (by omega) (by omega),w64 (x:=0-1) (by omega) (by omega)]
  refine evp (by omega) (evp (by omega) (evp (by omega) ?_))
  refine Ev.step (fun k=>by rw [ak.l1]) ?_
  rw [em]
  exact evn (by omega) (evp (by omega) (evp (by omega) hj))
 ·have h2:=dZ cb.1 ((b.length:Int)-2) (by omega) (by omega)
  rw [e9] at h2
  have em:mx 0 (wrap64 ((b.length:Int)-2))=(b.length:Int)-2:=by rw [w64 (by omega) (by omega)];unfold mx;split<;>omega
  have hj:=AU hr hb cr cb hm hx ht (low:=(0*10000+rd b ((b.length:Int)-1))*10000+rd b ((b.length:Int)-2)) (by omega)
  refine Ev.step (fun k=>by rw [ak.l1]) ?_
  rw [em,w64 (x:=0*10000) (by omega) (by omega),w64 (x:=0*10000+rd b ((b.length:Int)-1)) (by omega) (by omega),w64 (x:=(b.length:Int)-1-1) (by omega) (by omega),show (b.length:Int)-1-1=(b.length:Int)-2 by omega]
  refine evp (by omega) (evp (by omega) (evp (by omega) ?_))
  refine Ev.step (fun k=>by rw [ak.l1]) ?_
  rw [em,w64 (x:=(0*10000+rd b ((b.length:Int)-1))*10000) (by omega) (by omega),w64 (x:=(0*10000+rd b ((b.length:Int)-1))*10000+rd b ((b.length:Int)-2)) (by omega) (by omega),w64 (x:=(b.length:Int)-2-1) (by omega) (by omega)]
  refine evp (by omega) (evp (by omega) (evp (by omega) ?_))
  refine Ev.step (fun k=>by rw [ak.l1]) ?_
  rw [em]
  exact evn (by omega) (evn (by omega) hj)
theorem digit_l0 {r b:List Int} {x m:Int} (hr:r.length<34359738368) (hb:b.length<34359738368) (cr:Can RR r x) (cb:Can RR b m) (hm:0<m) (hx:x<m*10000) (c:Nat):∀ (t i:Int),(i+1-mx 0 ((b.length:Int)-2)).toNat=c→-1≤i→i≤b.length→0≤t→t<10000 ^ (3-c)→c≤3→Ev (fun k=>ak.l0 k r b (b.length:Int) t 0 i) (x / m):=by
 have em:wrap64 ((b.length:Int)-2)=(b.length:Int)-2:=by rw [w64 (by omega) (by omega)]
 have hlo:0≤mx 0 ((b.length:Int)-2):=by unfold mx;split<;>omega
 induction c with
 | zero =>
  intro t i h1 h2 h3 h4 h5 h6
  have:=digit_l1 hr hb cr cb hm hx (t:=t) ⟨h4,Int.lt_trans h5 (by decide)⟩
  refine Ev.step (fun k=>by rw [ak.l0]) ?_
  rw [em,w64 (x:=(b.length:Int)-1) (by omega) (by omega)]
  exact evn (by omega) this
 | succ c ih =>
  intro t i h1 h2 h3 h4 h5 h6
  have hp:(10000:Int) ^ (3-(c+1))*10000=10000 ^ (3-c):=by
   rw [← Int.pow_succ];congr 1;omega
  have hq:(10000:Int) ^ (3-c)≤10000 ^ 3:=eY (by decide) (by omega)
  have hq3:(10000:Int) ^ 3=1000000000000:=by decide
  refine Ev.step (fun k=>by rw [ak.l0]) ?_
  rw [em,w64 (x:=t*10000) (by omega) (by omega),w64 (x:=i-1) (by omega) (by omega)]
  refine evp (by omega) ?_
  by_cases c1:i<(r.length:Int)
  ·have hx':=dZ cr.1 i (by omega) (by omega)
   rw [e9] at hx'
   rw [w64 (x:=t*10000+rd r i) (by omega) (by omega)]
   exact evp c1 (evp (by omega) (ih (t*10000+rd r i) (i-1) (by omega) (by omega) (by omega) (by omega) (by omega) (by omega)))
  ·exact evn c1 (ih (t*10000) (i-1) (by omega) (by omega) (by omega) (by omega) (by omega) (by omega))
theorem BH {r b:List Int} {x m:Int} (hr:r.length<34359738368) (hb:b.length<34359738368) (cr:Can RR r x) (cb:Can RR b m) (hm:0<m) (hx:x<m*10000):Ev (fun k=>ak.f k r b) (x / m):=by
 unfold ak.f
 have hlo:(((b.length:Int)+1-mx 0 ((b.length:Int)-2)).toNat)≤3:=by unfold mx;split<;>omega
 exact digit_l0 hr hb cr cb hm hx _ 0 _ rfl (by omega) (Int.le_refl _) (by omega) (Int.pow_pos (by decide)) hlo
end Go.Proofs.YtjimdhlmeebjeaaGreat.P
end
section
namespace Go.Proofs.YtjimdhlmeebjeaaGreat.P
open Go.RowKit Go.Proofs.YtjimdhlmeebjeaaGreatW.PrintWords Go.Proofs.YtjimdhlmeebjeaaGreatW.PrintLast Go.Proofs.YtjimdhlmeebjeaaGreatW.PrintMore
set_option linter.unusedVariables false
theorem alg_rd {x m q d a R va:Int} (h:x+m*q=va):(x*R+a-m*d)+m*(d+R*q)=a+R*va:=by grind
theorem r_dm_l0 {a b:List Int} {n m:Int} (hn:a.length<17179869184) (hb:b.length<17179869184) (ha:Can RR a n) (cb:Can RR b m) (hm:0<m) (d:Nat):∀ (i:Nat) (q r:List Int) (x:Int),i=d→i≤a.length→q.length=a.length→Dg RR (q.drop i)→Can RR r x→x<m→x+m*vl RR (q.drop i)=vl RR (a.drop i)→(∀ j:Nat,j<i→rd q (j:Int)=0) →
 ∃ q' r',Ev (fun k=>aE.l0 k a b q r ((i:Int)-1)) (q',r')∧Can RR q' (n / m)∧Can RR r' (n % m)∧q'.length≤a.length:=by
 induction d with
 | zero =>
  rintro i q r x rfl h1 h2 h3 h4 h5 h6 h7
  rw [List.drop_zero,List.drop_zero,ha.2.2] at h6
  rw [List.drop_zero] at h3
  have x0:=h4.gu bj
  obtain ⟨t,t1,t2,t3⟩:=lW (l:=q) (by omega) h3
  have e1:n / m=vl RR q:=by rw [← h6,Int.add_mul_ediv_left _ _ (by omega),Int.ediv_eq_zero_of_lt x0 h5,Int.zero_add]
  have e2:n % m=x:=by rw [← h6,Int.add_mul_emod_self_left,Int.emod_eq_of_lt x0 h5]
  refine ⟨t,r,?_,by rw [e1];exact t2,by rw [e2];exact h4,by omega⟩
  refine Ev.step (fun k=>by rw [aE.l0]) ?_
  exact evn (by omega) (Ev.bind t1 (evs _))
 | succ d ih =>
  rintro i q r x rfl h1 h2 h3 h4 h5 h6 h7
  have hx:=dZ ha.1 (d:Int) (by omega) (by omega)
  rw [e9] at hx
  have x0:=h4.gu bj
  have lr:=jO cb h4 (by omega)
  obtain ⟨t,t1,t2,t3⟩:=jt (k0:=10000) (c0:=rd a (d:Int)) (by omega) h4 ⟨by omega,by omega⟩ ⟨hx.1,by omega⟩
  have k1:=dC (by omega) t2 cb
  by_cases c1:x*10000+rd a (d:Int)<m
  ·obtain ⟨q',r',e1,e2⟩:=ih d q t (x*10000+rd a (d:Int)) rfl (by omega) h2
    (by rw [fI q d (by omega)];exact Dg.mk (by rw [h7 d (by omega)];omega) (by rw [h7 d (by omega)];decide) h3) t2 c1
    (by
     have:=alg_rd (R:=RR) (a:=rd a (d:Int)) (d:=0) h6
     rw [fI q d (by omega),fI a d (by omega),vl,vl,h7 d (by omega)]
     rw [Int.mul_zero,Int.sub_zero] at this
     exact this) (fun j hj=>h7 j (by omega))
   refine ⟨q',r',?_,e2⟩
   refine Ev.step (fun k=>by rw [aE.l0]) ?_
   rw [show (((d+1:Nat):Int)-1)=(d:Int) by omega,w64 (x:=(d:Int)-1) (by omega) (by omega)]
   refine evp (by omega) (evp (by omega) (evp (by omega) (Ev.bind t1 (Ev.bind k1 (evp ?_ e1)))))
   unfold fv;rw [if_pos c1];omega
  ·have d1:=Int.mul_ediv_add_emod (x*10000+rd a (d:Int)) m
   have d2:=Int.emod_nonneg (x*10000+rd a (d:Int)) (show m≠0 by omega)
   have d3:=Int.emod_lt_of_pos (x*10000+rd a (d:Int)) hm
   have hg:=BH (r:=t) (b:=b) (by omega) (by omega) t2 cb hm (by omega)
   have g0:0≤(x*10000+rd a (d:Int)) / m:=Int.ediv_nonneg (by omega) (by omega)
   have g1:(x*10000+rd a (d:Int)) / m<10000:=Int.ediv_lt_of_lt_mul hm (by omega)
   generalize hG:(x*10000+rd a (d:Int)) / m=g at *
   obtain ⟨s,s1,s2,s3⟩:=jt (k0:=g) (c0:=0) (by omega) cb ⟨by omega,by omega⟩ ⟨by omega,by omega⟩
   rw [Int.add_zero] at s2
   obtain ⟨y,y1,y2,y3⟩:=Ab (by omega) t2 s2 (by omega)
   have hs:=w9 q (d:Int) g (by omega)
   rw [Int.toNat_natCast] at hs
   obtain ⟨q',r',e1,e2⟩:=ih d (q.set d g) y (x*10000+rd a (d:Int)-m*g) rfl (by omega) (by simpa using h2)
    (by rw [e8 _ _ _ (by omega)];exact Dg.mk g0 (by rw [e9];exact g1) h3) y2 (by omega)
    (by
     rw [e8 _ _ _ (by omega),fI a d (by omega),vl,vl]
     exact alg_rd h6)
    (fun j hj=>by
     have:=Dl q (d:Int) (j:Int) g (by omega)
     rw [Int.toNat_natCast] at this
     rw [this]
     exact h7 j (by omega))
   refine ⟨q',r',?_,e2⟩
   refine Ev.step (fun k=>by rw [aE.l0]) ?_
   rw [show (((d+1:Nat):Int)-1)=(d:Int) by omega,w64 (x:=(d:Int)-1) (by omega) (by omega),Int.toNat_natCast]
   refine evp (by omega) (evp (by omega) (evp (by omega) (Ev.bind t1 (Ev.bind k1 (evn ?_ (Ev.bind hg (evp (by omega) (evb rfl ?_))))))))
   ·unfold fv;rw [if_neg c1];split<;>omega
   ·rw [hs]
    exact Ev.bind s1 (Ev.bind y1 e1)
end Go.Proofs.YtjimdhlmeebjeaaGreat.P
end
section
namespace Go.Proofs.YtjimdhlmeebjeaaGreat.P
open Go.RowKit Go.Proofs.YtjimdhlmeebjeaaGreatW.PrintWords Go.Proofs.YtjimdhlmeebjeaaGreatW.PrintLast Go.Proofs.YtjimdhlmeebjeaaGreatW.PrintMore
set_option linter.unusedVariables false
theorem mR {a:Int} (h0:0≤a) (h1:a<100000000000000000):∃ r,Ev (fun k=>aH.f k a) r∧Can RR r a:=by
 by_cases c:a<10000000000000
 ·exact Ac h0 c
 ·obtain ⟨r,h2,h3⟩:=Ad a (a / 10000).toNat [a % 10000] (a / 10000) (by omega) (by omega) (by simp;omega) (Dg.mk (by omega) (by rw [e9];omega) (Dg.nil _)) (fun h=>by omega) (by
   show a % 10000+RR*0+a / 10000*RR ^ 1=a
   rw [e9];omega)
  refine ⟨r,?_,h3⟩
  refine Ev.congr (fun k=>by rw [aH.f]) ?_
  refine Ev.step (fun k=>by rw [aH.l0]) ?_
  rw [fS h0,fH h0,w64 (x:=a / 10000) (by omega) (by omega)]
  exact evp (by omega) (evp (by simp) h2)
theorem si {a b:List Int} {n m:Int} (hn:a.length<1073741824) (hb:b.length<1073741824) (ha:Can RR a n) (cb:Can RR b m) (hm:0<m) :
 ∃ q r,Ev (fun k=>aE.f k a b) (q,r)∧Can RR q (n / m)∧Can RR r (n % m)∧q.length<1073741824∧r.length<1073741824:=by
 have n0:=ha.gu bj
 have hc:=dC (by omega) ha cb
 have r0:=Int.emod_nonneg n (show m≠0 by omega)
 have r1:=Int.emod_lt_of_pos n hm
 have fin:∀ q r,Can RR q (n / m)→Can RR r (n % m)→q.length<1073741824∧r.length<1073741824:=by
  intro q r hq hr
  have l1:=jO ha hq (Int.ediv_le_self _ n0)
  have l2:=jO cb hr (by omega)
  omega
 have key:∃ q r,Ev (fun k=>aE.f k a b) (q,r)∧Can RR q (n / m)∧Can RR r (n % m):=by
  by_cases c1:n<m
  ·refine ⟨[],a,?_,by rw [Int.ediv_eq_zero_of_lt n0 c1];exact Can.zero _,by rw [Int.emod_eq_of_lt n0 c1];exact ha⟩
   unfold aE.f
   refine Ev.bind hc (evp ?_ (evs _))
   unfold fv;rw [if_pos c1];omega
  ·have hcm:¬ fv n m<0:=by unfold fv;rw [if_neg c1];split<;>omega
   have lba:=jO ha cb (by omega)
   obtain ⟨la1,la2⟩:=kI (by omega) ha
   obtain ⟨lb1,lb2⟩:=kI (by omega) cb
   by_cases c2:a.length≤4
   ·have hlt:=ha.lt bj
    have h4:=eY (B:=RR) (by decide) c2
    have h5:RR ^ 4=10000000000000000:=by decide
    have q0:0≤n / m:=Int.ediv_nonneg n0 (by omega)
    have q1:n / m≤n:=Int.ediv_le_self _ n0
    obtain ⟨x,x1,x2⟩:=mR (a:=n / m) q0 (by omega)
    obtain ⟨y,y1,y2⟩:=mR (a:=n % m) r0 (by omega)
    refine ⟨x,y,?_,x2,y2⟩
    unfold aE.f
    refine Ev.bind hc (evn hcm (Ev.bind (la1 c2) (evp rfl (Ev.bind (lb1 (by omega)) (evn (show ¬ m=0 by omega) ?_)))))
    rw [fH n0,fS n0,w64 (x:=n / m) (by omega) (by omega)]
    exact Ev.bind x1 (Ev.bind y1 (evs _))
   ·by_cases c3:b.length=1
    ·have hx:=dZ cb.1 0 (by omega) (by omega)
     rw [e9] at hx
     have em:m=rd b 0:=by
      have e:=dF RR b 0 (by omega)
      rw [show 0+1=b.length by omega,List.take_length,cb.2.2] at e
      simpa [vl] using e
     obtain ⟨q,q1,q2,q3⟩:=uk (by omega) ha (K:=m) ⟨by omega,by omega⟩
     obtain ⟨y,y1,y2⟩:=mR (a:=n % m) r0 (by omega)
     refine ⟨q,y,?_,q2,y2⟩
     unfold aE.f
     refine Ev.bind hc (evn hcm (Ev.bind (la2 (by omega)) (evn (by simp) (evp (by omega) (evp (by omega) ?_)))))
     rw [← em]
     exact Ev.bind q1 (Ev.bind y1 (evs _))
    ·obtain ⟨q,r,e1,e2,e3,e4⟩:=r_dm_l0 (by omega) (by omega) ha cb hm a.length a.length (List.replicate a.length 0) [] 0 rfl (Nat.le_refl _) (by simp) (by rw [List.drop_eq_nil_of_le (by simp)];exact Dg.nil _) (Can.zero _) hm (by rw [List.drop_eq_nil_of_le (by simp),List.drop_length];simp [vl]) (fun j hj=>by rw [pG _ _ (by simpa using hj)];simp)
     refine ⟨q,r,?_,e2,e3⟩
     unfold aE.f
     refine Ev.bind hc (evn hcm (Ev.bind (la2 (by omega)) (evn (by simp) (evn (by omega) (evp (by omega) (evp (by omega) ?_))))))
     rw [w64 (x:=(a.length:Int)-1) (by omega) (by omega),Int.toNat_natCast]
     exact e1
 obtain ⟨q,r,e1,e2,e3⟩:=key
 exact ⟨q,r,e1,e2,e3,fin q r e2 e3⟩
end Go.Proofs.YtjimdhlmeebjeaaGreat.P
end
section
namespace Go.Proofs.YtjimdhlmeebjeaaGreat.P
open Go.RowKit Go.Proofs.YtjimdhlmeebjeaaGreatW.PrintWords Go.Proofs.YtjimdhlmeebjeaaGreatW.PrintLast Go.Proofs.YtjimdhlmeebjeaaGreatW.PrintMore
set_option linter.unusedVariables false
def gI (a b:Int):Int:=((Int.gcd a b:Nat):Int)
theorem gI_comm (a b:Int):gI a b=gI b a:=by unfold gI;rw [Int.gcd_comm]
theorem vW {a:Int} (h:0≤a):gI a 0=a:=by
 unfold gI
 rw [Int.gcd_zero_right]
 omega
theorem gI_sub (a b k:Int):gI b (a-k*b)=gI a b:=by
 unfold gI
 rw [Int.gcd_sub_mul_right_right,Int.gcd_comm]
theorem xI (a b:Int):gI b (a % b)=gI a b:=by
 rw [Int.emod_def,Int.mul_comm b]
 exact gI_sub a b (a / b)
theorem gI_le {a b:Int} (h:0<b):gI a b≤b:=by
 unfold gI
 exact Int.le_of_dvd h (Int.gcd_dvd_right a b)
theorem r_gcd_l1 (c:Nat):∀ x y:Int,y.toNat=c→0≤x→x<100000000000000000→0≤y→y<100000000000000000→∃ r,Ev (fun k=>ay.l1 k x y) r∧Can RR r (gI x y):=by
 induction c using Nat.strongRecOn with
 | _ c ih =>
  intro x y hc x0 x1 y0 y1
  by_cases c1:y>0
  ·have m0:=Int.emod_nonneg x (show y≠0 by omega)
   have m1:=Int.emod_lt_of_pos x c1
   obtain ⟨r,r1,r2⟩:=ih (x % y).toNat (by omega) y (x % y) rfl y0 y1 m0 (by omega)
   rw [xI] at r2
   refine ⟨r,?_,r2⟩
   refine Ev.step (fun k=>by rw [ay.l1]) ?_
   rw [fS x0]
   exact evp c1 (evn (by omega) r1)
  ·have e:y=0:=by omega
   subst e
   obtain ⟨r,r1,r2⟩:=mR x0 x1
   rw [vW x0]
   refine ⟨r,?_,r2⟩
   refine Ev.step (fun k=>by rw [ay.l1]) ?_
   exact evn (by omega) (Ev.bind r1 (evs _))
theorem r_gcd_l0 (c:Nat):∀ (a b:List Int) (n m:Int),m.toNat=c→a.length<1073741824→b.length<1073741824→Can RR a n→Can RR b m→∃ r,Ev (fun k=>ay.l0 k a b) r∧Can RR r (gI n m):=by
 induction c using Nat.strongRecOn with
 | _ c ih =>
  intro a b n m hc la lb ha hb
  have n0:=ha.gu bj
  have m0:=hb.gu bj
  have hz:=hb.ji bj
  by_cases c1:m=0
  ·have e:=hz.2 c1
   rw [c1,vW n0]
   refine ⟨a,?_,ha⟩
   refine Ev.step (fun k=>by rw [ay.l0]) ?_
   exact evn (by omega) (evs _)
  ·have e:b.length≠0:=fun h=>c1 (hz.1 h)
   have mp:0<m:=by omega
   obtain ⟨la1,la2⟩:=kI (by omega) ha
   obtain ⟨lb1,lb2⟩:=kI (by omega) hb
   have h5:RR ^ 4=10000000000000000:=by decide
   have slow:∀ x y,∃ r,Ev (fun k=>ay.j1 k a b x y false) r∧Can RR r (gI n m):=by
    intro x y
    have r0:=Int.emod_nonneg n (show m≠0 by omega)
    have r1:=Int.emod_lt_of_pos n mp
    obtain ⟨q,r,d1,d2,d3,d4,d5⟩:=si la lb ha hb mp
    obtain ⟨z,z1,z2⟩:=ih (n % m).toNat (by omega) b r m (n % m) rfl lb d5 hb d3
    rw [xI] at z2
    refine ⟨z,?_,z2⟩
    refine Ev.step (fun k=>by rw [ay.j1]) ?_
    exact evn (by simp) (Ev.bind d1 z1)
   by_cases c2:a.length≤4
   ·by_cases c3:b.length≤4
    ·have hlt:=ha.lt bj
     have h4:=eY (B:=RR) (by decide) c2
     have hlt':=hb.lt bj
     have h4':=eY (B:=RR) (by decide) c3
     obtain ⟨z,z1,z2⟩:=r_gcd_l1 _ n m rfl n0 (by omega) m0 (by omega)
     refine ⟨z,?_,z2⟩
     refine Ev.step (fun k=>by rw [ay.l0]) ?_
     refine evp (by omega) (Ev.bind (la1 c2) (Ev.bind (lb1 c3) (evp rfl ?_)))
     refine Ev.step (fun k=>by rw [ay.j1]) ?_
     exact evp rfl z1
    ·obtain ⟨z,z1,z2⟩:=slow n 0
     refine ⟨z,?_,z2⟩
     refine Ev.step (fun k=>by rw [ay.l0]) ?_
     exact evp (by omega) (Ev.bind (la1 c2) (Ev.bind (lb2 (by omega)) (evp rfl z1)))
   ·by_cases c3:b.length≤4
    ·obtain ⟨z,z1,z2⟩:=slow 0 m
     refine ⟨z,?_,z2⟩
     refine Ev.step (fun k=>by rw [ay.l0]) ?_
     exact evp (by omega) (Ev.bind (la2 (by omega)) (Ev.bind (lb1 c3) (evn (by simp) z1)))
    ·obtain ⟨z,z1,z2⟩:=slow 0 0
     refine ⟨z,?_,z2⟩
     refine Ev.step (fun k=>by rw [ay.l0]) ?_
     exact evp (by omega) (Ev.bind (la2 (by omega)) (Ev.bind (lb2 (by omega)) (evn (by simp) z1)))
theorem r_GCD_sp {a b:List Int} {n m:Int} (la:a.length<1073741824) (lb:b.length<1073741824) (ha:Can RR a n) (hb:Can RR b m):∃ r,Ev (fun k=>ay.f k a b) r∧Can RR r (gI n m):=by
 unfold ay.f
 exact r_gcd_l0 _ a b n m rfl la lb ha hb
end Go.Proofs.YtjimdhlmeebjeaaGreat.P
end
section
namespace Go.Proofs.YtjimdhlmeebjeaaGreat.P
open Go.RowKit Go.Proofs.YtjimdhlmeebjeaaGreatW.PrintWords Go.Proofs.YtjimdhlmeebjeaaGreatW.PrintLast Go.Proofs.YtjimdhlmeebjeaaGreatW.PrintMore
set_option linter.unusedVariables false
theorem jm {r:List Int} {v:Int} (hr:Can WW r v) (hl:r.length≤2):fj.f r=some (v,true):=by
 unfold fj.f
 by_cases c:r.length=0
 ·rw [(hr.ji aM).1 c,if_pos (by omega)]
 ·have e:=tc (a:=r) (by omega)
  have v0:=hr.gu aM
  have h0:=dZ hr.1 0 (by omega) (by omega)
  rw [dx] at h0
  rw [hr.2.2] at e
  by_cases h1:r.length=1
  ·rw [h1] at e
   have e2:v=rd r 0:=by simpa [vl] using e
   rw [if_neg (by omega),if_pos (by omega),if_pos (by omega),← e2,u64 (x:=v) (by omega) (by omega)]
  ·have h2:r.length=2:=by omega
   have hx:=dZ hr.1 1 (by omega) (by omega)
   rw [dx] at hx
   have e3:=dF WW r 0 (by omega)
   have e4:v=rd r 1*4294967296+rd r 0:=by
    rw [h2] at e
    have f1:((2:Nat):Int)-1=1:=rfl
    have f2:(2:Nat)-1=0+1:=rfl
    rw [f1,f2,e3,dx,List.take_zero] at e
    simp only [vl] at e
    rw [e]
    have f3:((0:Nat):Int)=0:=rfl
    have f4:(4294967296:Int) ^ 0=1:=rfl
    have f5:(4294967296:Int) ^ (0+1)=4294967296:=rfl
    rw [f3,f4,f5]
    omega
   rw [if_neg (by omega),if_neg (by omega),if_pos (by omega),if_pos (by omega),if_pos (by omega),u64 (x:=rd r 1) (by omega) (by omega),u64 (x:=rd r 0) (by omega) (by omega),u64 (x:=rd r 1*4294967296) (by omega) (by omega),or64 hx h0,e4]
theorem E8 {n m p q:Int}:m*q-n*(-p)=p*n+q*m:=by grind
theorem E7 {n m p q:Int}:n*p-m*(-q)=p*n+q*m:=by grind
theorem ky {a b:List Int} {n m p q:Int} (la:a.length<1073741824) (lb:b.length<1073741824) (ha:Can WW a n) (hb:Can WW b m) (hs:(0≤p∧q≤0)∨(p≤0∧0≤q))
 (hp:-4611686018427387904≤p∧p≤4611686018427387904) (hq:-4611686018427387904≤q∧q≤4611686018427387904) (h:0≤p*n+q*m):∃ r,Ev (fun k=>cG.f k a b p q) r∧Can WW r (p*n+q*m):=by
 have hW2:WW ^ 2=18446744073709551616:=by decide
 have pos:p≤0→0≤q→∃ r,Ev (fun k=>cG.j0 k a b p q true) r∧Can WW r (p*n+q*m):=by
  intro p0 q0
  obtain ⟨t,t1,t2⟩:=fy (a:=q) q0 (by omega)
  have t3:=t2.fm (k:=2) aY (by omega)
  obtain ⟨x,x1,x2,x3⟩:=ko (by omega) hb t2
  obtain ⟨s,s1,s2⟩:=fy (a:=-p) (by omega) (by omega)
  have s3:=s2.fm (k:=2) aY (by omega)
  obtain ⟨y,y1,y2,y3⟩:=ko (by omega) ha s2
  rw [← E8] at h
  obtain ⟨z,z1,z2,z3⟩:=pR (by omega) x2 y2 (by omega)
  rw [E8] at z2
  refine ⟨z,?_,z2⟩
  refine Ev.step (fun k=>by rw [cG.j0]) ?_
  rw [w64 (x:=-p) (by omega) (by omega),u64 (x:=-p) (by omega) (by omega),u64 (x:=q) (by omega) (by omega)]
  exact evp rfl (Ev.bind t1 (Ev.bind x1 (Ev.bind s1 (Ev.bind y1 (Ev.bind z1 (evs _))))))
 have neg:0≤p→q≤0→∃ r,Ev (fun k=>cG.j0 k a b p q false) r∧Can WW r (p*n+q*m):=by
  intro p0 q0
  obtain ⟨t,t1,t2⟩:=fy (a:=p) p0 (by omega)
  have t3:=t2.fm (k:=2) aY (by omega)
  obtain ⟨x,x1,x2,x3⟩:=ko (by omega) ha t2
  obtain ⟨s,s1,s2⟩:=fy (a:=-q) (by omega) (by omega)
  have s3:=s2.fm (k:=2) aY (by omega)
  obtain ⟨y,y1,y2,y3⟩:=ko (by omega) hb s2
  rw [← E7] at h
  obtain ⟨z,z1,z2,z3⟩:=pR (by omega) x2 y2 (by omega)
  rw [E7] at z2
  refine ⟨z,?_,z2⟩
  refine Ev.step (fun k=>by rw [cG.j0]) ?_
  rw [w64 (x:=-q) (by omega) (by omega),u64 (x:=-q) (by omega) (by omega),u64 (x:=p) (by omega) (by omega)]
  exact evn (by simp) (Ev.bind t1 (Ev.bind x1 (Ev.bind s1 (Ev.bind y1 (Ev.bind z1 (evs _))))))
 unfold cG.f
 by_cases c1:p<0
 ·obtain ⟨r,r1,r2⟩:=pos (by omega) (by omega)
  exact ⟨r,evp c1 r1,r2⟩
 ·by_cases c2:q>0
  ·obtain ⟨r,r1,r2⟩:=pos (by omega) (by omega)
   rw [decide_eq_true c2]
   exact ⟨r,evn c1 r1,r2⟩
  ·obtain ⟨r,r1,r2⟩:=neg (by omega) (by omega)
   rw [decide_eq_false c2]
   exact ⟨r,evn c1 r1,r2⟩
theorem alg_lin1 {p q x y T a b d:Int}:p*(T*x+a)+q*(T*y+b)=T*(p*x+q*y+q)+p*a+(q*b-q*T):=by grind
theorem alg_lin2 {p q x y T a b d:Int}:p*(T*x+a)+q*(T*y+b)=T*(p*x+q*y+p)+(p*a-p*T)+q*b:=by grind
theorem D2 {p q x y T a b d:Int} (hT:0<T) (ha:0≤a∧a<T) (hb:0≤b∧b<T) (hs:(0≤p∧q≤0)∨(p≤0∧0≤q)) (h1:d≤p*x+q*y+p) (h2:d≤p*x+q*y+q):T*d≤p*(T*x+a)+q*(T*y+b):=by
 rcases hs with ⟨h3,h4⟩ | ⟨h3,h4⟩
 ·have k1:0≤p*a:=Int.mul_nonneg h3 ha.1
  have k2:q*T≤q*b:=Int.mul_le_mul_of_nonpos_left h4 (by omega)
  have k3:T*d≤T*(p*x+q*y+q):=Int.mul_le_mul_of_nonneg_left h2 (by omega)
  rw [alg_lin1 (d:=d)]
  omega
 ·have k1:0≤q*b:=Int.mul_nonneg h4 hb.1
  have k2:p*T≤p*a:=Int.mul_le_mul_of_nonpos_left h3 (by omega)
  have k3:T*d≤T*(p*x+q*y+p):=Int.mul_le_mul_of_nonneg_left h1 (by omega)
  rw [alg_lin2 (d:=d)]
  omega
theorem sT {k r:Int} (hk:0≤k∧k≤2147483648) (hr:-2147483648≤r∧r≤2147483648):-4611686018427387904≤k*r∧k*r≤4611686018427387904:=by
 have h1:k*r≤k*2147483648:=Int.mul_le_mul_of_nonneg_left hr.2 hk.1
 have h2:k*(-2147483648)≤k*r:=Int.mul_le_mul_of_nonneg_left hr.1 hk.1
 omega
theorem alg_l1 {p q r s x y k u v:Int} (hu:u=p*x+q*y) (hv:v=r*x+s*y):u-k*v=(p-k*r)*x+(q-k*s)*y:=by rw [hu,hv];grind
theorem alg_l2 {p q r s n m k:Int}:(p-k*r)*n+(q-k*s)*m=(p*n+q*m)-k*(r*n+s*m):=by grind
theorem alg_l3 {p q r s n m k:Int}:((k+1)*r-p)*n+((k+1)*s-q)*m=(k+1)*(r*n+s*m)-(p*n+q*m):=by grind
theorem alg_l4 {u p v r k:Int}:(u-k*v)+(p-k*r)=(u+p)-k*(v+r):=by grind
theorem alg_l5 {x y p q r s u v k g h:Int} (hu:u=p*x+q*y) (hv:v=r*x+s*y):((k+1)*r-p)*x+((k+1)*s-q)*y+((k+1)*g-h)=(k+1)*(v+g)-(u+h):=by rw [hu,hv];grind
theorem xZ {k A:Int}:(k+1)*A=k*A+A:=by grind
end Go.Proofs.YtjimdhlmeebjeaaGreat.P
end
section
namespace Go.Proofs.YtjimdhlmeebjeaaGreat.P
open Go.RowKit Go.Proofs.YtjimdhlmeebjeaaGreatW.PrintWords Go.Proofs.YtjimdhlmeebjeaaGreatW.PrintLast Go.Proofs.YtjimdhlmeebjeaaGreatW.PrintMore
set_option linter.unusedVariables false
def zz (n m:Int) (R:List Int×List Int×Bool):Prop:=R.2.2=true→∃ C D,Can WW R.1 C∧Can WW R.2.1 D∧gI C D=gI n m∧D≤C∧D<m∧C≤n
theorem Ea {a b:List Int} {n m p q r s:Int} (la:a.length<1073741824) (lb:b.length<1073741824) (ha:Can WW a n) (hb:Can WW b m)
 (h1:(0≤p∧q≤0)∨(p≤0∧0≤q)) (h2:(0≤r∧s≤0)∨(r≤0∧0≤s))
 (bp:-2147483648≤p∧p≤2147483648) (bq:-2147483648≤q∧q≤2147483648) (br:-2147483648≤r∧r≤2147483648) (bs:-2147483648≤s∧s≤2147483648)
 (hA:0≤p*n+q*m) (hB:0≤r*n+s*m) (hg:gI (p*n+q*m) (r*n+s*m)=gI n m) (hn:p*n+q*m≤n) (hBA:r*n+s*m≤p*n+q*m) (hm:q≠0→r*n+s*m<m) :
 ∃ R,Ev (fun k=>bk.j2 k a b p q r s) R∧zz n m R:=by
 by_cases c:q=0
 ·refine ⟨([],[],false),?_,fun h=>by simp at h⟩
  refine Ev.step (fun k=>by rw [bk.j2]) ?_
  exact evp c (evs _)
 ·obtain ⟨x,x1,x2⟩:=ky la lb ha hb h1 (by omega) (by omega) hA
  obtain ⟨y,y1,y2⟩:=ky la lb ha hb h2 (by omega) (by omega) hB
  refine ⟨(x,y,true),?_,fun _=>⟨_,_,x2,y2,hg,hBA,hm c,hn⟩⟩
  refine Ev.step (fun k=>by rw [bk.j2]) ?_
  exact evn c (Ev.bind x1 (Ev.bind y1 (evs _)))
theorem D9 {a b:List Int} {n m x y T a' b':Int} (la:a.length<1073741824) (lb:b.length<1073741824) (ha:Can WW a n) (hb:Can WW b m) (hT:0<T) (hn:n=T*x+a') (hm:m=T*y+b') (ha':0≤a'∧a'<T) (hb':0≤b'∧b'<T) (c:Nat) :
 ∀ p q r s u v:Int,(v+r).toNat=c→u=p*x+q*y→v=r*x+s*y →
 ((0≤p∧q≤0∧r≤0∧0≤s)∨(p≤0∧0≤q∧0≤r∧s≤0)) →
 (0≤u+p∧u+p≤2147483648)→(0≤u+q∧u+q≤2147483648)→(0≤v+r∧v+r≤2147483648)→(0≤v+s∧v+s≤2147483648) →
 gI (p*n+q*m) (r*n+s*m)=gI n m→r*n+s*m≤m→p*n+q*m≤n→r*n+s*m≤p*n+q*m→(q≠0→r*n+s*m<m)→m≤n →
 ∃ R,Ev (fun k=>bk.l0 k a b p q r s u v) R∧zz n m R:=by
 induction c using Nat.strongRecOn with
 | _ c ih =>
  intro p q r s u v hc hu hv hs bp bq br bs hg hBm hAn hBA hq hmn
  have hA:0≤p*n+q*m:=by
   have:=D2 (p:=p) (q:=q) (x:=x) (y:=y) (d:=0) hT ha' hb' (by omega) (by rw [← hu];omega) (by rw [← hu];omega)
   rw [hn,hm];omega
  have hB:0≤r*n+s*m:=by
   have:=D2 (p:=r) (q:=s) (x:=x) (y:=y) (d:=0) hT ha' hb' (by omega) (by rw [← hv];omega) (by rw [← hv];omega)
   rw [hn,hm];omega
  obtain ⟨R0,e1,e2⟩:=Ea (p:=p) (q:=q) (r:=r) (s:=s) la lb ha hb (by omega) (by omega) (by omega) (by omega) (by omega) (by omega) hA hB hg hAn hBA hq
  have stop:Ev (fun k=>bk.j1 k a b p q r s u v false) R0:=by
   refine Ev.step (fun k=>by rw [bk.j1]) ?_
   exact evn (by simp) e1
  by_cases c1:v+r=0
  ·refine ⟨R0,?_,e2⟩
   refine Ev.step (fun k=>by rw [bk.l0]) ?_
   rw [w64 (x:=v+r) (by omega) (by omega)]
   exact evp c1 stop
  ·by_cases c2:v+s=0
   ·refine ⟨R0,?_,e2⟩
    refine Ev.step (fun k=>by rw [bk.l0]) ?_
    rw [w64 (x:=v+r) (by omega) (by omega),w64 (x:=v+s) (by omega) (by omega),show (v+s != 0)=false by simp [c2]]
    exact evn c1 stop
   ·have step:∀ R,Ev (fun k=>bk.j1 k a b p q r s u v true) R→Ev (fun k=>bk.l0 k a b p q r s u v) R:=by
     intro R h
     refine Ev.step (fun k=>by rw [bk.l0]) ?_
     rw [w64 (x:=v+r) (by omega) (by omega),w64 (x:=v+s) (by omega) (by omega),show (v+s != 0)=true by simp [c2]]
     exact evn c1 h
    have k0:0≤(u+p) / (v+r):=Int.ediv_nonneg (by omega) (by omega)
    have k1:(u+p) / (v+r)≤u+p:=Int.ediv_le_self _ (by omega)
    have g0:0≤(u+q) / (v+s):=Int.ediv_nonneg (by omega) (by omega)
    have g1:(u+q) / (v+s)≤u+q:=Int.ediv_le_self _ (by omega)
    have d1:=Int.mul_ediv_add_emod (u+p) (v+r)
    have d2:=Int.emod_nonneg (u+p) (show v+r≠0 by omega)
    have d3:=Int.emod_lt_of_pos (u+p) (show 0<v+r by omega)
    have f1:=Int.mul_ediv_add_emod (u+q) (v+s)
    have f2:=Int.emod_nonneg (u+q) (show v+s≠0 by omega)
    have f3:=Int.emod_lt_of_pos (u+q) (show 0<v+s by omega)
    generalize hk:(u+p) / (v+r)=K at k0 k1 d1
    generalize hk2:(u+q) / (v+s)=K2 at g0 g1 f1
    generalize (u+p) % (v+r)=w1 at d1 d2 d3
    generalize (u+q) % (v+s)=w2 at f1 f2 f3
    have tests:∀ R,(K=K2→Ev (fun k=>bk.l0 k a b r s (p-K*r) (q-K*s) v (u-K*v)) R)→(K≠K2→Ev (fun k=>bk.j2 k a b p q r s) R)→Ev (fun k=>bk.j1 k a b p q r s u v true) R:=by
     intro R h1 h2
     refine Ev.step (fun k=>by rw [bk.j1]) ?_
     have m1:=sT (k:=K) (r:=r) ⟨k0,by omega⟩ (by omega)
     have m2:=sT (k:=K) (r:=s) ⟨k0,by omega⟩ (by omega)
     have m3:=sT (k:=K) (r:=v) ⟨k0,by omega⟩ (by omega)
     rw [w64 (x:=v+r) (by omega) (by omega),w64 (x:=v+s) (by omega) (by omega),w64 (x:=u+p) (by omega) (by omega),w64 (x:=u+q) (by omega) (by omega),fH (x:=u+p) (by omega),fH (x:=u+q) (by omega),hk,hk2,
      w64 (x:=K) (by omega) (by omega),w64 (x:=K2) (by omega) (by omega),w64 (x:=K*r) (by omega) (by omega),w64 (x:=K*s) (by omega) (by omega),w64 (x:=K*v) (by omega) (by omega),w64 (x:=p-K*r) (by omega) (by omega),w64 (x:=q-K*s) (by omega) (by omega),w64 (x:=u-K*v) (by omega) (by omega)]
     refine evp rfl (evn c1 (evn c2 ?_))
     by_cases c3:K=K2
     ·exact evp c3 (h1 c3)
     ·exact evn c3 (h2 c3)
    by_cases c3:K=K2
    ·subst c3
     have s1:(u-K*v)+(p-K*r)=w1:=by rw [alg_l4,Int.mul_comm K];omega
     have s2:(u-K*v)+(q-K*s)=w2:=by rw [alg_l4,Int.mul_comm K];omega
     have sg:(0≤r∧s≤0∧p-K*r≤0∧0≤q-K*s)∨(r≤0∧0≤s∧0≤p-K*r∧q-K*s≤0):=by
      rcases hs with ⟨t1,t2,t3,t4⟩ | ⟨t1,t2,t3,t4⟩
      ·have i1:=Int.mul_nonpos_of_nonneg_of_nonpos k0 t3
       have i2:=Int.mul_nonneg k0 t4
       exact .inr ⟨t3,t4,by omega,by omega⟩
      ·have i1:=Int.mul_nonneg k0 t3
       have i2:=Int.mul_nonpos_of_nonneg_of_nonpos k0 t4
       exact .inl ⟨t3,t4,by omega,by omega⟩
     have lt:(p-K*r)*n+(q-K*s)*m<r*n+s*m:=by
      have i:=D2 (p:=(K+1)*r-p) (q:=(K+1)*s-q) (x:=x) (y:=y) (d:=1) hT ha' hb' (by
       rw [xZ,xZ]
       omega) (by
       rw [alg_l5 hu hv,xZ,Int.mul_comm K]
       omega) (by
       rw [alg_l5 hu hv,xZ,Int.mul_comm K]
       omega)
      rw [← hn,← hm,alg_l3,xZ] at i
      rw [alg_l2]
      omega
     obtain ⟨R,r1,r2⟩:=ih (u-K*v+(p-K*r)).toNat (by rw [s1];omega) r s (p-K*r) (q-K*s) v (u-K*v) rfl hv (alg_l1 hu hv) sg (by omega) (by omega) (by omega) (by omega)
      (by rw [alg_l2,gI_sub];exact hg) (by omega) (by omega) (by omega) (fun _=>by omega) hmn
     exact ⟨R,step R (tests R (fun _=>r1) (fun h=>absurd rfl h)),r2⟩
    ·exact ⟨R0,step R0 (tests R0 (fun h=>absurd h c3) (fun _=>e1)),e2⟩
theorem D8 {a b:List Int} {n m:Int} (la:a.length<1073741824) (lb:b.length<1073741824) (hb2:2<b.length) (ha:Can WW a n) (hb:Can WW b m) (hmn:m≤n):∃ R,Ev (fun k=>bk.f k a b) R∧zz n m R:=by
 have lba:=kz ha hb hmn
 have n0:=ha.gu aM
 have m0:=hb.gu aM
 have mz:=hb.ji aM
 have m1:m≠0:=fun h=>by have:=mz.2 h;omega
 obtain ⟨A,A1,A2,A3,A4⟩:=sX (by omega) ha
 obtain ⟨B,B1,B2,B3,B4⟩:=sX (by omega) hb
 obtain ⟨A5,A6,A7,A8⟩:=A4 (by omega)
 clear A3 A4 B3 B4
 unfold bk.f
 rw [A1,B1]
 simp only [Option.bind_some]
 rw [w64 (x:=(A:Int)-20) (by omega) (by omega),w64 (x:=(A:Int)-31) (by omega) (by omega),show (A:Int)-31=((A-31:Nat):Int) by omega]
 by_cases c:(B:Int)<(A:Int)-20
 ·exact ⟨([],[],false),evp c (evs _),fun h=>by simp at h⟩
 ·obtain ⟨x,x1,x2,x3⟩:=pS (A-31) (by omega) (by omega) ha
  obtain ⟨y,y1,y2,y3⟩:=pS (A-31) (by omega) (by omega) hb
  have hT:=two_pos (A-31)
  have e:(2:Int) ^ A=2 ^ (A-31)*2147483648:=by
   rw [show (2147483648:Int)=2 ^ 31 by decide,← Int.pow_add]
   congr 1
   omega
  rw [e] at A6
  clear e A5
  generalize (2:Int) ^ (A-31)=T at hT A6 x2 y2
  have q1:n / T<2147483648:=Int.ediv_lt_of_lt_mul hT (by rw [Int.mul_comm];exact A6)
  have q2:m / T≤n / T:=Int.ediv_le_ediv hT hmn
  have q3:0≤m / T:=Int.ediv_nonneg m0 (by omega)
  have hW2:WW ^ 2=18446744073709551616:=by decide
  have sx:=jm x2 (x2.fm (k:=2) aY (by omega))
  have sy:=jm y2 (y2.fm (k:=2) aY (by omega))
  have i1:=Int.emod_nonneg n (show T≠0 by omega)
  have i2:=Int.emod_lt_of_pos n hT
  have i3:=Int.emod_nonneg m (show T≠0 by omega)
  have i4:=Int.emod_lt_of_pos m hT
  have j1:=Int.mul_ediv_add_emod n T
  have j2:=Int.mul_ediv_add_emod m T
  obtain ⟨R,r1,r2⟩:=D9 la lb ha hb hT j1.symm j2.symm ⟨i1,i2⟩ ⟨i3,i4⟩ _ 1 0 0 1 (n / T) (m / T) rfl (by omega) (by omega) (by omega) (by omega) (by omega) (by omega) (by omega)
   (by rw [Int.one_mul,Int.zero_mul,Int.zero_mul,Int.one_mul,Int.add_zero,Int.zero_add]) (by omega) (by omega) (by omega) (fun h=>absurd rfl h) hmn
  refine ⟨R,evn c (Ev.bind x1 (evb sx (Ev.bind y1 (evb sy ?_)))),r2⟩
  show Ev (fun k=>bk.l0 k a b 1 0 0 1 (wrap64 (n / T)) (wrap64 (m / T))) R
  rw [w64 (x:=n / T) (by omega) (by omega),w64 (x:=m / T) (by omega) (by omega)]
  exact r1
theorem Ca (c:Nat):∀ x y:Int,y.toNat=c→0≤x→x<18446744073709551616→0≤y→y<18446744073709551616→∃ r,Ev (fun k=>cq.l1 k x y) r∧Can WW r (gI x y):=by
 induction c using Nat.strongRecOn with
 | _ c ih =>
  intro x y hc x0 x1 y0 y1
  by_cases c1:y=0
  ·subst c1
   obtain ⟨r,r1,r2⟩:=fy x0 x1
   rw [vW x0]
   refine ⟨r,?_,r2⟩
   refine Ev.step (fun k=>by rw [cq.l1]) ?_
   exact evp rfl (Ev.bind r1 (evs _))
  ·have m0:=Int.emod_nonneg x (show y≠0 by omega)
   have m1:=Int.emod_lt_of_pos x (show 0<y by omega)
   obtain ⟨r,r1,r2⟩:=ih (x % y).toNat (by omega) y (x % y) rfl y0 y1 m0 (by omega)
   rw [xI] at r2
   refine ⟨r,?_,r2⟩
   refine Ev.step (fun k=>by rw [cq.l1]) ?_
   rw [fS x0]
   exact evn c1 r1
theorem uB (c:Nat):∀ (a b:List Int) (n m:Int),m.toNat=c→a.length<1073741824→Can WW a n→Can WW b m→m≤n→∃ r,Ev (fun k=>cq.l0 k a b) r∧Can WW r (gI n m):=by
 induction c using Nat.strongRecOn with
 | _ c ih =>
  intro a b n m hc la ha hb hmn
  have lba:=kz ha hb hmn
  have n0:=ha.gu aM
  have m0:=hb.gu aM
  have hz:=hb.ji aM
  have hW2:WW ^ 2=18446744073709551616:=by decide
  by_cases c1:2<b.length
  ·have mp:0<m:=by
    rcases Int.lt_or_le 0 m with h | h
    ·exact h
    ·have:=hz.2 (by omega)
     omega
   obtain ⟨R,r1,r2⟩:=D8 la (by omega) c1 ha hb hmn
   obtain ⟨x,y,f⟩:=R
   cases f with
   | true =>
    obtain ⟨C,D,s1,s2,s3,s4,s5,s6⟩:=r2 rfl
    have D0:=s2.gu aM
    have lc:=kz ha s1 s6
    obtain ⟨z,z1,z2⟩:=ih D.toNat (by omega) x y C D rfl (by show x.length<_;have:x.length≤a.length:=lc;omega) s1 s2 s4
    rw [s3] at z2
    refine ⟨z,?_,z2⟩
    refine Ev.step (fun k=>by rw [cq.l0]) ?_
    exact evp (by omega) (Ev.bind r1 (evp rfl z1))
   | false =>
    have q0:=Int.emod_nonneg n (show m≠0 by omega)
    have q1:=Int.emod_lt_of_pos n mp
    obtain ⟨q,r,d1,d2,d3⟩:=kM (by omega) ha hb mp
    obtain ⟨z,z1,z2⟩:=ih (n % m).toNat (by omega) b r m (n % m) rfl (by omega) hb d3 (by omega)
    rw [xI] at z2
    refine ⟨z,?_,z2⟩
    refine Ev.step (fun k=>by rw [cq.l0]) ?_
    exact evp (by omega) (Ev.bind r1 (evn (by simp) (Ev.bind d1 z1)))
  ·by_cases c2:b.length=0
   ·rw [hz.1 c2,vW n0]
    refine ⟨a,?_,ha⟩
    refine Ev.step (fun k=>by rw [cq.l0]) ?_
    exact evn (by omega) (evp (by omega) (evp (by simp;omega) (evs _)))
   ·have mp:0<m:=by
     rcases Int.lt_or_le 0 m with h | h
     ·exact h
     ·have:=hz.2 (by omega)
      omega
    have q0:=Int.emod_nonneg n (show m≠0 by omega)
    have q1:=Int.emod_lt_of_pos n mp
    obtain ⟨q,r,d1,d2,d3⟩:=kM (by omega) ha hb mp
    have hlt:=hb.lt aM
    have h4:=eY (B:=WW) (by decide) (show b.length≤2 by omega)
    have l3:=d3.fm (k:=2) aY (by omega)
    have e1:=jm hb (by omega)
    have e2:=jm d3 l3
    obtain ⟨z,z1,z2⟩:=Ca _ m (n % m) rfl m0 (by omega) q0 (by omega)
    rw [xI] at z2
    refine ⟨z,?_,z2⟩
    refine Ev.step (fun k=>by rw [cq.l0]) ?_
    exact evn (by omega) (evn (by omega) (Ev.bind d1 (evb e1 (evb e2 z1))))
theorem Ch {a b:List Int} {n m:Int} (la:a.length<1073741824) (lb:b.length<1073741824) (ha:Can WW a n) (hb:Can WW b m):∃ r,Ev (fun k=>cq.f k a b) r∧Can WW r (gI n m):=by
 have hc:=pT (by omega) ha hb
 unfold cq.f
 by_cases c:n<m
 ·obtain ⟨r,r1,r2⟩:=uB _ b a m n rfl lb hb ha (by omega)
  rw [gI_comm] at r2
  refine ⟨r,Ev.bind hc (evp ?_ ?_),r2⟩
  ·unfold fv;rw [if_pos c];omega
  ·exact Ev.step (fun k=>by rw [cq.j0]) r1
 ·obtain ⟨r,r1,r2⟩:=uB _ a b n m rfl la ha hb (by omega)
  refine ⟨r,Ev.bind hc (evn ?_ ?_),r2⟩
  ·unfold fv;rw [if_neg c];split<;>omega
  ·exact Ev.step (fun k=>by rw [cq.j0]) r1
end Go.Proofs.YtjimdhlmeebjeaaGreat.P
end
section
namespace Go.Proofs.YtjimdhlmeebjeaaGreat.P
open Go.RowKit Go.Proofs.YtjimdhlmeebjeaaGreatW.PrintWords Go.Proofs.YtjimdhlmeebjeaaGreatW.PrintLast Go.Proofs.YtjimdhlmeebjeaaGreatW.PrintMore
set_option linter.unusedVariables false
def sv (s:ByteArray):Nat→Int
 | 0=>0
 | i+1=>sv s i*10+(bt s (i:Int)-48)
end Go.Proofs.YtjimdhlmeebjeaaGreat.P
end
section
namespace Go.Proofs.YtjimdhlmeebjeaaGreat.Q
open Go.RowKit Go.Proofs.YtjimdhlmeebjeaaGreatW.PrintWords Go.Proofs.YtjimdhlmeebjeaaGreatW.PrintMore Go.Proofs.YtjimdhlmeebjeaaGreat.V Go.Proofs.YtjimdhlmeebjeaaGreat.E
open Go.Proofs.YtjimdhlmeebjeaaGreat.P (Dg Nm vl WW RR bS gI evs evk evb fv aM aY)
set_option linter.unusedVariables false
theorem bT {α:Type} {c:Bool} {f g:Nat→Option α} {r:α} (hc:c=true) (h:Ev f r):Ev (fun k=>bif c then f k else g k) r:=by subst hc;exact h
theorem bF {α:Type} {c:Bool} {f g:Nat→Option α} {r:α} (hc:c=false) (h:Ev g r):Ev (fun k=>bif c then f k else g k) r:=by subst hc;exact h
theorem iT {α:Type} {c:Prop} [Decidable c] {f:Nat→Option α} {r:α} (hc:c) (h:Ev f r):Ev (fun k=>if c then f k else none) r:=by simpa only [if_pos hc] using h
theorem evmap {α β:Type} {f:Nat→Option α} {g:α→β} {r:α} (h:Ev f r):Ev (fun k=>(f k).map g) (g r):=by
 obtain ⟨K,h⟩:=h
 exact ⟨K,fun k hk=>by simp only [h k hk,Option.map_some]⟩
def sg (s:Bool) (x:Int):Int:=if s then -x else x
def RB (B:Int) (v:aA) (q:Rat):Prop:=v.1=decide (q.num<0)∧P.Can B v.2.1 (q.num.natAbs:Int)∧P.Can B v.2.2.1 (q.den:Int)
theorem zu {B:Int} (h:1<B):P.Can B [1] 1:=⟨Dg.mk (by decide) h (Dg.nil _),fun h=>by simp,by simp [vl]⟩
theorem gj {B:Int} (h:1<B):RB B (false,[],[1],()) 0:=⟨rfl,P.Can.zero B,zu h⟩
theorem oF {B:Int} (h:1<B):RB B (false,[1],[1],()) 1:=⟨rfl,zu h,zu h⟩
theorem rb_uniq {B:Int} (hB:0<B) {v w:aA} {q:Rat} (hv:RB B v q) (hw:RB B w q):v=w:=by
 obtain ⟨a,b,c,d⟩:=v
 obtain ⟨a',b',c',d'⟩:=w
 obtain ⟨h1,h2,h3⟩:=hv
 obtain ⟨g1,g2,g3⟩:=hw
 have e1:a=a':=h1.trans g1.symm
 have e2:b=b':=bS hB h2 g2
 have e3:c=c':=bS hB h3 g3
 subst e1 e2 e3
 rfl
theorem Ep (x y:Int):((y.gcd x:Nat):Int)=gI x y:=by unfold gI;rw [Int.gcd_comm]
theorem sd {B:Int} {s:Bool} {l d:List Int} {x y:Int} (hx:0<x) (hy:0<y) (hl:P.Can B l (x / gI x y)) (hd:P.Can B d (y / gI x y)):RB B (s,l,d,()) (Rat.divInt (sg s x) y):=by
 have hg:0<gI x y:=by
  unfold gI
  have:=Int.gcd_pos_of_ne_zero_left y (show x≠0 by omega)
  omega
 have hgx:gI x y ∣ x:=Int.gcd_dvd_left ..
 have hgy:gI x y ∣ y:=Int.gcd_dvd_right ..
 have hq:0<x / gI x y:=Int.ediv_pos_of_pos_of_dvd hx (by omega) hgx
 have hr:0<y / gI x y:=Int.ediv_pos_of_pos_of_dvd hy (by omega) hgy
 have hsg:((y.gcd (sg s x):Nat):Int)=gI x y:=by
  unfold sg
  cases s with
  | true=>simp only [if_true,Int.gcd_neg];exact Ep x y
  | false=>exact Ep x y
 have hnum:(Rat.divInt (sg s x) y).num=sg s (x / gI x y):=by
  rw [Rat.num_divInt,hsg,Int.sign_eq_one_of_pos hy,Int.one_mul]
  unfold sg
  cases s with
  | true=>simp only [if_true];exact Int.neg_ediv_of_dvd hgx
  | false=>rfl
 have hden:((Rat.divInt (sg s x) y).den:Int)=y / gI x y:=by
  rw [Rat.den_divInt,if_neg (by omega),Int.natCast_ediv,hsg]
  congr 1
  omega
 refine ⟨?_,?_,?_⟩
 ·show s=_
  rw [hnum]
  unfold sg
  cases s with
  | true=>simp only [if_true];exact (decide_eq_true (by omega)).symm
  | false=>exact (decide_eq_false (by simp;omega)).symm
 ·show P.Can B l _
  rw [hnum]
  have:((sg s (x / gI x y)).natAbs:Int)=x / gI x y:=by
   unfold sg
   cases s with
   | true=>simp only [if_true];omega
   | false=>simp;omega
  rw [this]
  exact hl
 ·show P.Can B d _
  rw [hden]
  exact hd
theorem xK (s:Bool) (y:Int):Rat.divInt (sg s 0) y=0:=by unfold sg;cases s<;>simp
theorem rb_val {B:Int} {v:aA} {q:Rat} (h:RB B v q):Rat.divInt (sg v.1 q.num.natAbs) q.den=q:=by
 have:sg v.1 q.num.natAbs=q.num:=by
  unfold sg
  rw [h.1]
  by_cases c:q.num<0
  ·rw [if_pos (decide_eq_true c)];omega
  ·rw [if_neg (by simpa using c)];omega
 rw [this,Rat.num_divInt_den]
theorem nA {B:Int} {v:aA} {q:Rat} (h:RB B v q):sg v.1 q.num.natAbs=q.num:=by
 unfold sg
 rw [h.1]
 by_cases c:q.num<0
 ·rw [if_pos (decide_eq_true c)];omega
 ·rw [if_neg (by simpa using c)];omega
theorem dw (q:Rat):(0:Int)<q.den:=by have:=q.den_pos;omega
def Sz (B:Int) (K:Nat) (q:Rat):Prop:=(q.num.natAbs:Int)<B ^ K∧(q.den:Int)<B ^ K
theorem vd {B:Int} (hB:0<B) {v:aA} {q:Rat} (h:RB B v q) {K:Nat} (h1:v.2.1.length≤K) (h2:v.2.2.1.length≤K):Sz B K q :=
 ⟨Int.lt_of_lt_of_le (h.2.1.lt hB) (P.eY (by omega) h1),Int.lt_of_lt_of_le (h.2.2.lt hB) (P.eY (by omega) h2)⟩
theorem fp {B:Int} (hB:1<B) {v:aA} {q:Rat} (h:RB B v q) {K:Nat} (hs:Sz B K q):v.2.1.length≤K∧v.2.2.1.length≤K:=⟨h.2.1.fm hB hs.1,h.2.2.fm hB hs.2⟩
theorem fa {B:Int} (hB:0<B) {q:Rat} {K L:Nat} (hs:Sz B K q) (h:K≤L):Sz B L q:=⟨Int.lt_of_lt_of_le hs.1 (P.eY (by omega) h),Int.lt_of_lt_of_le hs.2 (P.eY (by omega) h)⟩
theorem pA {B:Int} {s:Bool} {x y:Int} {K:Nat} (hx:0≤x) (hy:0<y) (h1:x<B ^ K) (h2:y<B ^ K):Sz B K (Rat.divInt (sg s x) y):=by
 have hsx:(sg s x).natAbs=x.natAbs:=by unfold sg;cases s<;>simp
 constructor
 ·rw [Rat.num_divInt,Int.sign_eq_one_of_pos hy,Int.one_mul]
  have:((sg s x) / ((y.gcd (sg s x):Nat):Int)).natAbs≤(sg s x).natAbs:=by
   rw [Int.natAbs_ediv_of_dvd (Int.gcd_dvd_right ..)]
   exact Nat.div_le_self ..
  omega
 ·rw [Rat.den_divInt,if_neg (by omega)]
  have:y.natAbs / (y.gcd (sg s x))≤y.natAbs:=Nat.div_le_self ..
  omega
end Go.Proofs.YtjimdhlmeebjeaaGreat.Q
end
