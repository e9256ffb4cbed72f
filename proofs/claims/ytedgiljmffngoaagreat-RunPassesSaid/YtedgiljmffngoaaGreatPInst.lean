import Derived.Test.YtedgiljmffngoaaGreatPReps
import Derived.Test.YtedgiljmffngoaaGreatRows
import Derived.Test.YtedgiljmffngoaaGreatPSortD
namespace Go.Proofs.YtedgiljmffngoaaGreat
set_option linter.all false
open Go.RowKit
open Go.Proofs.Tryz
def lF:D1 prog 31=some [.string ByteArray.empty,.slice none 0 0,.int .i64 0,.slice none 0 0,.slice none 0 0,.slice none 0 0,.slice none 0 0,.slice none 0 0,.slice none 0 0,.slice none 0 0,.int .i64 0]:=by kernel_rfl
def bE:VX prog 137=some ([(0,1),(1,1)],[.int .i64 0,.int .i64 0]):=by kernel_rfl
def vS:OR prog 98=some (137,2,16,[.int .i64 0,.int .i64 0]):=by kernel_rfl
def H5:OR prog 29=some (3,1,8,[.int .i64 0]):=by kernel_rfl
def Wx:VX prog 101=some ([(0,1),(1,1),(2,1),(3,1),(4,1),(5,1),(6,1),(7,1),(8,1),(9,1),(10,1),(11,1)],[.string ByteArray.empty,.int .i64 0,.int .i64 0,.int .i64 0,.slice none 0 0,.slice none 0 0,.int .i64 0,.int .i64 0,.int .i64 0,.int .i64 0,.int .i64 0,.slice none 0 0]):=by kernel_rfl
def MS:D1 prog 101=some [.string ByteArray.empty,.int .i64 0,.int .i64 0,.int .i64 0,.slice none 0 0,.slice none 0 0,.int .i64 0,.int .i64 0,.int .i64 0,.int .i64 0,.int .i64 0,.slice none 0 0]:=by kernel_rfl
def vV:OR prog 22=some (9,1,16,[.string ByteArray.empty]):=by kernel_rfl
def vU:OR prog 23=some (101,12,152,[.string ByteArray.empty,.int .i64 0,.int .i64 0,.int .i64 0,.slice none 0 0,.slice none 0 0,.int .i64 0,.int .i64 0,.int .i64 0,.int .i64 0,.int .i64 0,.slice none 0 0]):=by kernel_rfl
def tY:VX prog 31=some ([(0,1),(1,1),(2,1),(3,1),(4,1),(5,1),(6,1),(7,1),(8,1),(9,1),(10,1)],[.string ByteArray.empty,.slice none 0 0,.int .i64 0,.slice none 0 0,.slice none 0 0,.slice none 0 0,.slice none 0 0,.slice none 0 0,.slice none 0 0,.slice none 0 0,.int .i64 0]):=by kernel_rfl
def vY:BI prog 95=true:=by kernel_rfl
def M2:D1 prog 36=some [.int .i64 0,.slice none 0 0,.slice none 0 0,.slice none 0 0,.slice none 0 0,.slice none 0 0,.slice none 0 0]:=by kernel_rfl
def mo:prog.follows .mixedOrders=true:=by kernel_rfl
def lM:VX prog 36=some ([(0,1),(1,1),(2,1),(3,1),(4,1),(5,1),(6,1)],[.int .i64 0,.slice none 0 0,.slice none 0 0,.slice none 0 0,.slice none 0 0,.slice none 0 0,.slice none 0 0]):=by kernel_rfl
def O6:OR prog 32=some (29,1,24,[.slice none 0 0]):=by kernel_rfl
def WT:OR prog 34=some (106,4,24,[.int .i64 0,.int .i64 0,.bool false,.bool false]):=by kernel_rfl
def aF:∃e,prog.underlying 29=some (.slice e):=⟨3,by kernel_rfl⟩
def QO:BI prog 116=true:=by kernel_rfl
def wF:BI prog 41=true:=by kernel_rfl
def tX:VX prog 60=some ([(0,1),(1,1),(2,1),(3,1),(4,1)],[.slice none 0 0,.slice none 0 0,.slice none 0 0,.slice none 0 0,.slice none 0 0]):=by kernel_rfl
def vT:OR prog 78=some (60,5,120,[.slice none 0 0,.slice none 0 0,.slice none 0 0,.slice none 0 0,.slice none 0 0]):=by kernel_rfl
def aE:∃e,prog.underlying 34=some (.slice e):=⟨106,by kernel_rfl⟩
def rM:BI prog 157=true:=by kernel_rfl
def wE:BI prog 78=true:=by kernel_rfl
def nX:VX prog 160=some ([(0,11),(11,5),(16,7),(23,1),(24,1),(25,1)],[.string ByteArray.empty,.slice none 0 0,.int .i64 0,.slice none 0 0,.slice none 0 0,.slice none 0 0,.slice none 0 0,.slice none 0 0,.slice none 0 0,.slice none 0 0,.int .i64 0,.slice none 0 0,.slice none 0 0,.slice none 0 0,.slice none 0 0,.slice none 0 0,.int .i64 0,.slice none 0 0,.slice none 0 0,.slice none 0 0,.slice none 0 0,.slice none 0 0,.slice none 0 0,.slice none 0 0,.slice none 0 0,.slice none 0 0]):=by kernel_rfl
def nD:D1 prog 160=some [.string ByteArray.empty,.slice none 0 0,.int .i64 0,.slice none 0 0,.slice none 0 0,.slice none 0 0,.slice none 0 0,.slice none 0 0,.slice none 0 0,.slice none 0 0,.int .i64 0,.slice none 0 0,.slice none 0 0,.slice none 0 0,.slice none 0 0,.slice none 0 0,.int .i64 0,.slice none 0 0,.slice none 0 0,.slice none 0 0,.slice none 0 0,.slice none 0 0,.slice none 0 0,.slice none 0 0,.slice none 0 0,.slice none 0 0]:=by kernel_rfl
def P7:D1 prog 106=some [.int .i64 0,.int .i64 0,.bool false,.bool false]:=by kernel_rfl
def nB:D1 prog 232=some [.int .i64 0,.int .i64 0]:=by kernel_rfl
def PB:BI prog 158=true:=by kernel_rfl
def rL:BI prog 159=true:=by kernel_rfl
def VB:BI prog 205=true:=by kernel_rfl
def nC:D1 prog 210=some [.int .i64 0,.int .i64 0]:=by kernel_rfl
def rO:BI prog 142=true:=by kernel_rfl
def Rm:BI prog 111=true:=by kernel_rfl
def Q0:BI prog 70=true:=by kernel_rfl
def Oe:D1 prog 117=some [.string ByteArray.empty,.int .i64 0,.int .i64 0,.int .i64 0,.slice none 0 0,.slice none 0 0,.slice none 0 0,.int .i64 0,.int .i64 0,.int .i64 0,.int .i64 0,.int .i64 0,.int .i64 0,.int .i64 0,.int .i64 0,.int .i64 0,.int .i64 0,.int .i64 0]:=by kernel_rfl
def rK:BI prog 160=true:=by kernel_rfl
def wD:BI prog 79=true:=by kernel_rfl
def eL:BI prog 213=true:=by kernel_rfl
def mZ:D1 prog 251=some [.int .i64 0,.int .i64 0,.int .i64 0,.int .i64 0]:=by kernel_rfl
def rJ:BI prog 161=true:=by kernel_rfl
def wC:BI prog 80=true:=by kernel_rfl
def L9:BI prog 18=true:=by kernel_rfl
def Nq:D1 prog 121=some [.int .i64 0,.int .i64 0,.slice none 0 0]:=by kernel_rfl
def T9:VX prog 74=some ([(0,1),(1,1),(2,1),(3,1),(4,1)],[.int .i64 0,.int .i64 0,.int .i64 0,.int .i64 0,.slice none 0 0]):=by kernel_rfl
def UT:OR prog 70=some (74,5,56,[.int .i64 0,.int .i64 0,.int .i64 0,.int .i64 0,.slice none 0 0]):=by kernel_rfl
def wB:BI prog 81=true:=by kernel_rfl
def dZ:BI prog 30=true:=by kernel_rfl
def Ww:VX prog 121=some ([(0,1),(1,1),(2,1)],[.int .i64 0,.int .i64 0,.slice none 0 0]):=by kernel_rfl
def R6:OR prog 33=some (121,3,40,[.int .i64 0,.int .i64 0,.slice none 0 0]):=by kernel_rfl
def rI:BI prog 162=true:=by kernel_rfl
def rH:BI prog 163=true:=by kernel_rfl
def wA:BI prog 82=true:=by kernel_rfl
def eC:BI prog 268=true:=by kernel_rfl
def qM:BI prog 216=true:=by kernel_rfl
def nA:D1 prog 243=some [.int .i64 0,.int .i64 0,.int .i64 0,.int .i64 0]:=by kernel_rfl
def RM:VX prog 259=some ([(0,1),(1,1),(2,1),(3,1)],[.int .i64 0,.int .i64 0,.int .i64 0,.nilFunc]):=by kernel_rfl
def qO:BI prog 215=true:=by kernel_rfl
def NJ:OR prog 255=some (259,4,32,[.int .i64 0,.int .i64 0,.int .i64 0,.nilFunc]):=by kernel_rfl
def rF:BI prog 165=true:=by kernel_rfl
def MC:prog.underlying 3=some (.int .i64):=by kernel_rfl
def If:prog.underlying 176=some (.int .u64):=by kernel_rfl
def eE:BI prog 266=true:=by kernel_rfl
def Wp:prog.underlying 5=some (.int .u8):=by kernel_rfl
def MU:prog.underlying 9=some .string:=by kernel_rfl
def pO:BI prog 302=true:=by kernel_rfl
def pR:BI prog 289=true:=by kernel_rfl
def Wq:prog.underlying 186=some (.int .u64):=by kernel_rfl
def eD:BI prog 267=true:=by kernel_rfl
def TQ:BI prog 212=true:=by kernel_rfl
def TO:BI prog 262=true:=by kernel_rfl
def Ue:D1 prog 137=some [.int .i64 0,.int .i64 0]:=by kernel_rfl
def QM:BI prog 232=true:=by kernel_rfl
def pM:BI prog 304=true:=by kernel_rfl
def pN:BI prog 303=true:=by kernel_rfl
def XM:BI prog 288=true:=by kernel_rfl
def qA:BI prog 264=true:=by kernel_rfl
def qC:BI prog 263=true:=by kernel_rfl
def qQ:BI prog 210=true:=by kernel_rfl
def eG:BI prog 242=true:=by kernel_rfl
def lG:D1 prog 29=some [.slice none 0 0]:=by kernel_rfl
def vL:yI prog 29=true:=by kernel_rfl
def pP:BI prog 291=true:=by kernel_rfl
def pX:BI prog 271=true:=by kernel_rfl
def qJ:BI prog 220=true:=by kernel_rfl
def eF:BI prog 265=true:=by kernel_rfl
def qL:BI prog 217=true:=by kernel_rfl
def TT:BI prog 168=true:=by kernel_rfl
def TP:BI prog 219=true:=by kernel_rfl
def eM:BI prog 211=true:=by kernel_rfl
def rE:BI prog 166=true:=by kernel_rfl
def pG:OR prog 304=some (255,1,24,[.slice none 0 0]):=by kernel_rfl
def xQ:prog.underlying 3=some (.int .i64):=by kernel_rfl
def qP:BI prog 214=true:=by kernel_rfl
def rG:BI prog 164=true:=by kernel_rfl
def pQ:BI prog 290=true:=by kernel_rfl
def pY:BI prog 270=true:=by kernel_rfl
def pZ:BI prog 269=true:=by kernel_rfl
def qK:BI prog 218=true:=by kernel_rfl
def mY:D1 prog 259=some [.int .i64 0,.int .i64 0,.int .i64 0,.nilFunc]:=by kernel_rfl
def XP:BI prog 167=true:=by kernel_rfl
def rN:BI prog 156=true:=by kernel_rfl
def vZ:BI prog 83=true:=by kernel_rfl
def Zu:D1 prog 60=some [.slice none 0 0,.slice none 0 0,.slice none 0 0,.slice none 0 0,.slice none 0 0]:=by kernel_rfl
def mO:BI prog 21=true:=by kernel_rfl
def mA:OR prog 80=some (36,7,152,[.int .i64 0,.slice none 0 0,.slice none 0 0,.slice none 0 0,.slice none 0 0,.slice none 0 0,.slice none 0 0]):=by kernel_rfl
def mN:BI prog 26=true:=by kernel_rfl
def Ve:D1 prog 74=some [.int .i64 0,.int .i64 0,.int .i64 0,.int .i64 0,.slice none 0 0]:=by kernel_rfl
def wG:BI prog 36=true:=by kernel_rfl
def rC:BI prog 170=true:=by kernel_rfl
def pW:BI prog 272=true:=by kernel_rfl
def O9:BI prog 221=true:=by kernel_rfl
def pV:BI prog 273=true:=by kernel_rfl
def XO:BI prog 222=true:=by kernel_rfl
def pU:BI prog 274=true:=by kernel_rfl
def Rl:BI prog 223=true:=by kernel_rfl
def nY:VX prog 106=some ([(0,1),(1,1),(2,1),(3,1)],[.int .i64 0,.int .i64 0,.bool false,.bool false]):=by kernel_rfl
def qI:BI prog 224=true:=by kernel_rfl
def rD:BI prog 169=true:=by kernel_rfl
def eN:BI prog 187=true:=by kernel_rfl
def rR:BI prog 109=true:=by kernel_rfl
def eP:BI prog 110=true:=by kernel_rfl
def Zv:D1 prog 269=some [.pointer none,.slice none 0 0]:=by kernel_rfl
def O7:OR prog 267=some (5,1,1,[.int .u8 0]):=by kernel_rfl
def pT:BI prog 276=true:=by kernel_rfl
def eJ:BI prog 226=true:=by kernel_rfl
def aJ:prog.underlying 267=some (.slice 5):=by kernel_rfl
def tN:prog.underlying 5=some (.int .u8):=by kernel_rfl
def NK:BI prog 172=true:=by kernel_rfl
def Kb:BI prog 171=true:=by kernel_rfl
def eB:BI prog 277=true:=by kernel_rfl
def eO:BI prog 174=true:=by kernel_rfl
def qH:BI prog 227=true:=by kernel_rfl
def TS:BI prog 173=true:=by kernel_rfl
def mJ:BI prog 34=true:=by kernel_rfl
def mF:BI prog 97=true:=by kernel_rfl
def mG:BI prog 96=true:=by kernel_rfl
def TU:BI prog 113=true:=by kernel_rfl
def mI:BI prog 38=true:=by kernel_rfl
def HB:BI prog 228=true:=by kernel_rfl
def JR:BI prog 229=true:=by kernel_rfl
def mW:D1 prog 319=some [.map none]:=by kernel_rfl
def xL:D1 prog 4=some [.bool false]:=by kernel_rfl
def nV:VX prog 353=some ([(0,1),(1,1)],[.string ByteArray.empty,.string ByteArray.empty]):=by kernel_rfl
def mU:D1 prog 353=some [.string ByteArray.empty,.string ByteArray.empty]:=by kernel_rfl
def pS:BI prog 278=true:=by kernel_rfl
def aI:prog.underlying 319=some (.map 353 4):=by kernel_rfl
def pA:jA prog 353=some [3,3]:=by kernel_rfl
def YE:Nk prog 353 (λk:AH=>Value.agg (AH.v k).toArray):=Nk.agg (f:=AH.v) underlying353 pA (λk=>rfl) (λa b=>rfl) (λk e w=>by kernel_rfl) (λa b c=>by
 simp only[AH.v,Zc,gJ,Aaa,Rp,Aam,beq_iff_eq] at c;simp [AH.v,c]) (λa=>by simp [Instr.sameBits,AH.v,Rp.2])
def xK:∀w,(zeroValue 4).run prog w= .ok (.bool false) w:=λw=>by kernel_rfl
def qG:BI prog 231=true:=by kernel_rfl
def QN:BI prog 230=true:=by kernel_rfl
def Z0:D1 prog 139=some [.string ByteArray.empty,.int .i64 0,.int .i64 0,.int .i64 0,.int .i64 0,.int .i64 0,.int .i64 0]:=by kernel_rfl
def Zy:D1 prog 215=some [.string ByteArray.empty,.int .i64 0]:=by kernel_rfl
def Zx:D1 prog 217=some [.string ByteArray.empty,.int .i64 0,.int .i64 0,.int .i64 0,.int .i64 0]:=by kernel_rfl
def Zw:D1 prog 219=some [.string ByteArray.empty,.int .i64 0,.int .i64 0,.int .i64 0,.int .i64 0,.int .i64 0,.int .i64 0]:=by kernel_rfl
def QL:BI prog 235=true:=by kernel_rfl
def XN:BI prog 233=true:=by kernel_rfl
def eI:BI prog 234=true:=by kernel_rfl
def mX:D1 prog 290=some [.int .i64 0,.int .i64 0]:=by kernel_rfl
def eA:BI prog 279=true:=by kernel_rfl
def qF:BI prog 236=true:=by kernel_rfl
def qE:BI prog 237=true:=by kernel_rfl
def eH:BI prog 238=true:=by kernel_rfl
def Rk:BI prog 239=true:=by kernel_rfl
def pF:OR prog 354=some (98,1,24,[.slice none 0 0]):=by kernel_rfl
def qD:BI prog 240=true:=by kernel_rfl
def sE:xE prog 323=some ([(0,1),(1,1),(2,1)],[.int .i64 0,.int .i64 0,.int .i64 0]):=by kernel_rfl
def mV:D1 prog 323=some [.int .i64 0,.int .i64 0,.int .i64 0]:=by kernel_rfl
def sC:yK prog 323 3 1=true:=by kernel_rfl
def rB:BI prog 175=true:=by kernel_rfl
def rA:BI prog 176=true:=by kernel_rfl
def qZ:BI prog 177=true:=by kernel_rfl
def qY:BI prog 178=true:=by kernel_rfl
def qX:BI prog 179=true:=by kernel_rfl
def qW:BI prog 180=true:=by kernel_rfl
def qV:BI prog 181=true:=by kernel_rfl
def qU:BI prog 182=true:=by kernel_rfl
def qT:BI prog 183=true:=by kernel_rfl
def mE:BI prog 98=true:=by kernel_rfl
def TV:BI prog 105=true:=by kernel_rfl
def rV:BI prog 106=true:=by kernel_rfl
def rU:BI prog 107=true:=by kernel_rfl
def pD:jA prog 106=some [1,1,2,2]:=by kernel_rfl
def rS:BI prog 108=true:=by kernel_rfl
def mK:BI prog 32=true:=by kernel_rfl
def mM:BI prog 27=true:=by kernel_rfl
def TR:BI prog 184=true:=by kernel_rfl
def mD:BI prog 99=true:=by kernel_rfl
def rX:BI prog 100=true:=by kernel_rfl
def Wm:D1 prog 178=some [.int .i64 0,.int .u64 0]:=by kernel_rfl
def nF:∀x y c:Int,IntKind.has .u64 x→IntKind.has .u64 y→(0≤c∧c≤1)→∀w,(callFunc 112 #[.int .u64 x,.int .u64 y,.int .u64 c]).run prog w= .ok (.value (.tuple #[.int .u64 (LE x y c).1,.int .u64 (LE x y c).2])) w:=Vg func112 (by kernel_rfl) (by kernel_rfl) (by kernel_rfl) (by kernel_rfl)
def Wv:VX prog 178=some ([(0,1),(1,1)],[.int .i64 0,.int .u64 0]):=by kernel_rfl
def bD:VX prog 175=some ([(0,1),(1,1),(2,1)],[.int .i64 0,.int .i64 0,.int .i64 0]):=by kernel_rfl
def Zz:D1 prog 175=some [.int .i64 0,.int .i64 0,.int .i64 0]:=by kernel_rfl
def Sk:prog.underlying 170=some (.map 175 178):=by kernel_rfl
def pC:jA prog 175=some [1,1,1]:=by kernel_rfl
def SY:Nk prog 175 (λk:AC=>Value.agg (AC.v k).toArray):=Nk.agg (f:=AC.v) underlying175 pC (λk=>rfl) (λa b=>rfl) (λk e w=>by kernel_rfl) (λa b c=>by
 simp only[AC.v,Zc,gJ,Aaa,Rp,Aam,beq_iff_eq] at c;simp [AC.v,c]) (λa=>by simp [Instr.sameBits,AC.v,Rp.2])
def Zt:∀w,(zeroValue 178).run prog w= .ok ((λk:AJ=>Value.agg #[.int .i64 (A9 k.hi),.int .u64 (IntKind.wrap .u64 k.lo)]) (⟨0,0⟩:AJ)) w:=λw=>by kernel_rfl
def qS:BI prog 185=true:=by kernel_rfl
def cJ:∀x:AJ,AJ.ok x→(λk:AJ=>Value.agg #[.int .i64 (A9 k.hi),.int .u64 (IntKind.wrap .u64 k.lo)]) x=Value.agg (AJ.v x).toArray:=λx b=>by obtain⟨h0,a⟩:=b;simp only[RH h0,gO a]
def TW:BI prog 102=true:=by kernel_rfl
def eQ:BI prog 101=true:=by kernel_rfl
def nE:∀x y c:Int,IntKind.has .u64 x→IntKind.has .u64 y→(0≤c∧c≤1)→∀w,(callFunc 241 #[.int .u64 x,.int .u64 y,.int .u64 c]).run prog w= .ok (.value (.tuple #[.int .u64 (LD x y c).1,.int .u64 (LD x y c).2])) w:=Vf func241 (by kernel_rfl) (by kernel_rfl) (by kernel_rfl) (by kernel_rfl)
def qR:BI prog 186=true:=by kernel_rfl
def QP:BI prog 103=true:=by kernel_rfl
def rW:BI prog 104=true:=by kernel_rfl
def pB:jA prog 178=some [1,1]:=by kernel_rfl
def mL:BI prog 28=true:=by kernel_rfl
def wI:BI prog 24=true:=by kernel_rfl
def wH:BI prog 25=true:=by kernel_rfl
def rQ:BI prog 114=true:=by kernel_rfl
def rP:BI prog 115=true:=by kernel_rfl
def mH:BI prog 39=true:=by kernel_rfl
def Sj:prog.underlying 266=some (.pointer 269):=by kernel_rfl
def aD:prog.underlying 348=some .unsafePointer:=by kernel_rfl
def TK:(prog.info? 269).map (·.size)=some 2:=by kernel_rfl
def oT:liesAt prog prog.depth 269 (2/prog.cellsOf 269) 0 269 1=true:=by kernel_rfl
def nJ:prog.underlying 318=some (.pointer 5):=by kernel_rfl
def yJ:prog.cellsOf 5=1:=by kernel_rfl
def eK:BI prog 225=true:=by kernel_rfl
def nW:VX prog 315=some ([(0,1),(1,1)],[.string ByteArray.empty,.bool false]):=by kernel_rfl
instance jH:GW Tryz.prog 31 3 3:=⟨by kernel_rfl⟩
instance jG:GW Tryz.prog 31 4 4:=⟨by kernel_rfl⟩
instance jJ:GW Tryz.prog 31 1 1:=⟨by kernel_rfl⟩
instance U7:GW Tryz.prog 36 1 1:=⟨by kernel_rfl⟩
instance:GW Tryz.prog 101 5 5:=⟨by kernel_rfl⟩
instance:GW Tryz.prog 36 2 2:=⟨by kernel_rfl⟩
instance:GW Tryz.prog 36 4 4:=⟨by kernel_rfl⟩
instance:GW Tryz.prog 36 5 5:=⟨by kernel_rfl⟩
instance jB:GW Tryz.prog 36 6 6:=⟨by kernel_rfl⟩
instance:GW Tryz.prog 160 1 11:=⟨by kernel_rfl⟩
instance:GW Tryz.prog 60 1 1:=⟨by kernel_rfl⟩
instance:GW Tryz.prog 106 2 2:=⟨by kernel_rfl⟩
instance:GW Tryz.prog 117 1 1:=⟨by kernel_rfl⟩
instance:GW Tryz.prog 106 3 3:=⟨by kernel_rfl⟩
instance:GW Tryz.prog 232 1 1:=⟨by kernel_rfl⟩
instance:GW Tryz.prog 160 0 0:=⟨by kernel_rfl⟩
instance dN:GW Tryz.prog 160 2 16:=⟨by kernel_rfl⟩
instance:GW Tryz.prog 232 0 0:=⟨by kernel_rfl⟩
instance:GW Tryz.prog 60 2 2:=⟨by kernel_rfl⟩
instance:GW Tryz.prog 117 6 7:=⟨by kernel_rfl⟩
instance:GW Tryz.prog 106 1 1:=⟨by kernel_rfl⟩
instance:GW Tryz.prog 210 0 0:=⟨by kernel_rfl⟩
instance:GW Tryz.prog 210 1 1:=⟨by kernel_rfl⟩
instance:GW Tryz.prog 106 0 0:=⟨by kernel_rfl⟩
instance:GW Tryz.prog 117 7 8:=⟨by kernel_rfl⟩
instance:GW Tryz.prog 60 4 4:=⟨by kernel_rfl⟩
instance:GW Tryz.prog 251 0 0:=⟨by kernel_rfl⟩
instance:GW Tryz.prog 251 1 1:=⟨by kernel_rfl⟩
instance:GW Tryz.prog 251 2 2:=⟨by kernel_rfl⟩
instance:GW Tryz.prog 251 3 3:=⟨by kernel_rfl⟩
instance:GW Tryz.prog 36 3 3:=⟨by kernel_rfl⟩
instance:GW Tryz.prog 121 2 2:=⟨by kernel_rfl⟩
instance:GW Tryz.prog 60 0 0:=⟨by kernel_rfl⟩
instance dM:GW Tryz.prog 160 3 23:=⟨by kernel_rfl⟩
instance xC:GW Tryz.prog 36 0 0:=⟨by kernel_rfl⟩
instance:GW Tryz.prog 121 0 0:=⟨by kernel_rfl⟩
instance:GW Tryz.prog 121 1 1:=⟨by kernel_rfl⟩
instance dL:GW Tryz.prog 160 4 24:=⟨by kernel_rfl⟩
instance:GW Tryz.prog 117 12 13:=⟨by kernel_rfl⟩
instance:GW Tryz.prog 117 13 14:=⟨by kernel_rfl⟩
instance:GW Tryz.prog 117 2 2:=⟨by kernel_rfl⟩
instance:GW Tryz.prog 60 3 3:=⟨by kernel_rfl⟩
instance:GW Tryz.prog 243 1 1:=⟨by kernel_rfl⟩
instance:GW Tryz.prog 243 2 2:=⟨by kernel_rfl⟩
instance:GW Tryz.prog 243 0 0:=⟨by kernel_rfl⟩
instance:GW Tryz.prog 243 3 3:=⟨by kernel_rfl⟩
instance:GW Tryz.prog 101 2 2:=⟨by kernel_rfl⟩
instance:GW Tryz.prog 117 3 3:=⟨by kernel_rfl⟩
instance:GW Tryz.prog 117 14 15:=⟨by kernel_rfl⟩
instance:GW Tryz.prog 117 15 16:=⟨by kernel_rfl⟩
instance:GW Tryz.prog 137 0 0:=⟨by kernel_rfl⟩
instance:GW Tryz.prog 137 1 1:=⟨by kernel_rfl⟩
instance:GW Tryz.prog 117 8 9:=⟨by kernel_rfl⟩
instance:GW Tryz.prog 117 10 11:=⟨by kernel_rfl⟩
instance:GW Tryz.prog 117 11 12:=⟨by kernel_rfl⟩
instance:GW Tryz.prog 117 9 10:=⟨by kernel_rfl⟩
instance:GW Tryz.prog 117 4 4:=⟨by kernel_rfl⟩
instance:GW Tryz.prog 117 16 17:=⟨by kernel_rfl⟩
instance:GW Tryz.prog 259 3 3:=⟨by kernel_rfl⟩
instance:GW Tryz.prog 259 0 0:=⟨by kernel_rfl⟩
instance:GW Tryz.prog 259 2 2:=⟨by kernel_rfl⟩
instance:GW Tryz.prog 160 5 25:=⟨by kernel_rfl⟩
instance:GW Tryz.prog 259 1 1:=⟨by kernel_rfl⟩
instance:GW Tryz.prog 101 7 7:=⟨by kernel_rfl⟩
instance:GW Tryz.prog 101 6 6:=⟨by kernel_rfl⟩
instance:GW Tryz.prog 101 8 8:=⟨by kernel_rfl⟩
instance:GW Tryz.prog 101 9 9:=⟨by kernel_rfl⟩
instance:GW Tryz.prog 101 3 3:=⟨by kernel_rfl⟩
instance:GW Tryz.prog 74 1 1:=⟨by kernel_rfl⟩
instance:GW Tryz.prog 74 0 0:=⟨by kernel_rfl⟩
instance:GW Tryz.prog 74 4 4:=⟨by kernel_rfl⟩
instance O5:GW Tryz.prog 315 1 1:=⟨by kernel_rfl⟩
instance Lk:GW Tryz.prog 315 0 0:=⟨by kernel_rfl⟩
instance:GW Tryz.prog 74 2 2:=⟨by kernel_rfl⟩
instance:GW Tryz.prog 74 3 3:=⟨by kernel_rfl⟩
instance U8:GW Tryz.prog 31 0 0:=⟨by kernel_rfl⟩
instance jI:GW Tryz.prog 31 2 2:=⟨by kernel_rfl⟩
instance jF:GW Tryz.prog 31 5 5:=⟨by kernel_rfl⟩
instance jE:GW Tryz.prog 31 6 6:=⟨by kernel_rfl⟩
instance jD:GW Tryz.prog 31 7 7:=⟨by kernel_rfl⟩
instance jC:GW Tryz.prog 31 8 8:=⟨by kernel_rfl⟩
instance YN:GW Tryz.prog 31 9 9:=⟨by kernel_rfl⟩
instance dK:GW Tryz.prog 31 10 10:=⟨by kernel_rfl⟩
instance:GW Tryz.prog 101 0 0:=⟨by kernel_rfl⟩
instance:GW Tryz.prog 117 0 0:=⟨by kernel_rfl⟩
instance:GW Tryz.prog 139 0 0:=⟨by kernel_rfl⟩
instance:GW Tryz.prog 215 0 0:=⟨by kernel_rfl⟩
instance:GW Tryz.prog 217 0 0:=⟨by kernel_rfl⟩
instance:GW Tryz.prog 219 0 0:=⟨by kernel_rfl⟩
instance:GW Tryz.prog 101 1 1:=⟨by kernel_rfl⟩
instance:GW Tryz.prog 101 10 10:=⟨by kernel_rfl⟩
instance:GW Tryz.prog 101 4 4:=⟨by kernel_rfl⟩
instance:GW Tryz.prog 101 11 11:=⟨by kernel_rfl⟩
instance:GW Tryz.prog 290 0 0:=⟨by kernel_rfl⟩
instance:GW Tryz.prog 290 1 1:=⟨by kernel_rfl⟩
instance:GW Tryz.prog 117 5 5:=⟨by kernel_rfl⟩
instance:GW Tryz.prog 115 0 0:=⟨by kernel_rfl⟩
instance:GW Tryz.prog 115 1 1:=⟨by kernel_rfl⟩
instance:GW Tryz.prog 139 1 1:=⟨by kernel_rfl⟩
instance:GW Tryz.prog 139 2 2:=⟨by kernel_rfl⟩
instance:GW Tryz.prog 139 3 3:=⟨by kernel_rfl⟩
instance:GW Tryz.prog 139 4 4:=⟨by kernel_rfl⟩
instance:GW Tryz.prog 139 5 5:=⟨by kernel_rfl⟩
instance:GW Tryz.prog 139 6 6:=⟨by kernel_rfl⟩
instance:GW Tryz.prog 215 1 1:=⟨by kernel_rfl⟩
instance:GW Tryz.prog 217 1 1:=⟨by kernel_rfl⟩
instance:GW Tryz.prog 217 3 3:=⟨by kernel_rfl⟩
instance:GW Tryz.prog 217 4 4:=⟨by kernel_rfl⟩
instance:GW Tryz.prog 217 2 2:=⟨by kernel_rfl⟩
instance:GW Tryz.prog 219 1 1:=⟨by kernel_rfl⟩
instance:GW Tryz.prog 219 2 2:=⟨by kernel_rfl⟩
instance:GW Tryz.prog 219 3 3:=⟨by kernel_rfl⟩
instance:GW Tryz.prog 219 4 4:=⟨by kernel_rfl⟩
instance:GW Tryz.prog 219 6 6:=⟨by kernel_rfl⟩
instance:GW Tryz.prog 219 5 5:=⟨by kernel_rfl⟩
instance:GW Tryz.prog 178 1 1:=⟨by kernel_rfl⟩
instance:GW Tryz.prog 178 0 0:=⟨by kernel_rfl⟩
instance Qw:GW Tryz.prog 269 0 0:=⟨by kernel_rfl⟩
instance Ll:GW Tryz.prog 269 1 1:=⟨by kernel_rfl⟩
instance Kk:R7 Tryz.prog 23 101 12:=⟨by kernel_rfl⟩
instance Om:R7 Tryz.prog 24 117 18:=⟨by kernel_rfl⟩
instance lO:R7 Tryz.prog 22 9 1:=⟨by kernel_rfl⟩
instance IP:R7 Tryz.prog 32 29 1:=⟨by kernel_rfl⟩
instance bH:R7 Tryz.prog 78 60 5:=⟨by kernel_rfl⟩
instance uE:R7 Tryz.prog 55 232 2:=⟨by kernel_rfl⟩
instance NV:R7 Tryz.prog 34 106 4:=⟨by kernel_rfl⟩
instance uD:R7 Tryz.prog 56 210 2:=⟨by kernel_rfl⟩
instance uB:R7 Tryz.prog 58 251 4:=⟨by kernel_rfl⟩
instance Ce:R7 Tryz.prog 29 3 1:=⟨by kernel_rfl⟩
instance LA:R7 Tryz.prog 33 121 3:=⟨by kernel_rfl⟩
instance uC:R7 Tryz.prog 57 243 4:=⟨by kernel_rfl⟩
instance M4:R7 Tryz.prog 98 137 2:=⟨by kernel_rfl⟩
instance bI:R7 Tryz.prog 304 255 1:=⟨by kernel_rfl⟩
instance P9:R7 Tryz.prog 255 259 4:=⟨by kernel_rfl⟩
instance UA:R7 Tryz.prog 70 74 5:=⟨by kernel_rfl⟩
instance RN:R7 Tryz.prog 267 5 1:=⟨by kernel_rfl⟩
instance bN:R7 Tryz.prog 25 139 7:=⟨by kernel_rfl⟩
instance bM:R7 Tryz.prog 26 217 5:=⟨by kernel_rfl⟩
instance bK:R7 Tryz.prog 27 219 7:=⟨by kernel_rfl⟩
instance bJ:R7 Tryz.prog 28 215 2:=⟨by kernel_rfl⟩
instance uA:R7 Tryz.prog 99 290 2:=⟨by kernel_rfl⟩
instance nZ:R7 Tryz.prog 354 98 1:=⟨by kernel_rfl⟩
instance Sv:R7 Tryz.prog 80 36 7:=⟨by kernel_rfl⟩
instance MW:Q5 Tryz.prog 101 12:=⟨by kernel_rfl⟩
instance aM:Q5 Tryz.prog 31 11:=⟨by kernel_rfl⟩
instance tT:Fc (Jj Tryz.prog 23 1 false=true):=⟨by kernel_rfl⟩
instance tS:Fc (Jj Tryz.prog 24 1 false=true):=⟨by kernel_rfl⟩
instance tU:Fc (Jj Tryz.prog 22 1 false=true):=⟨by kernel_rfl⟩
instance ID:Q5 Tryz.prog 36 7:=⟨by kernel_rfl⟩
instance T7:Fc (Jj Tryz.prog 32 1 false=true):=⟨by kernel_rfl⟩
instance Hc:Fc (Jj Tryz.prog 29 1 false=true):=⟨by kernel_rfl⟩
instance lK:Fc (Jj Tryz.prog 34 1 false=true):=⟨by kernel_rfl⟩
instance aL:Q5 Tryz.prog 60 5:=⟨by kernel_rfl⟩
instance nT:Q5 Tryz.prog 160 26:=⟨by kernel_rfl⟩
instance:Fc (Jj Tryz.prog 55 1 false=true):=⟨by kernel_rfl⟩
instance Qc:Fc (Jj Tryz.prog 4 1 false=true):=⟨by kernel_rfl⟩
instance Gq:Fc (Jj Tryz.prog 3 1 false=true):=⟨by kernel_rfl⟩
instance Hh:Q5 Tryz.prog 106 4:=⟨by kernel_rfl⟩
instance nR:Q5 Tryz.prog 232 2:=⟨by kernel_rfl⟩
instance Oj:Q5 Tryz.prog 117 18:=⟨by kernel_rfl⟩
instance:Fc (Jj Tryz.prog 56 1 false=true):=⟨by kernel_rfl⟩
instance nS:Q5 Tryz.prog 210 2:=⟨by kernel_rfl⟩
instance:Fc (Jj Tryz.prog 58 1 false=true):=⟨by kernel_rfl⟩
instance nP:Q5 Tryz.prog 251 4:=⟨by kernel_rfl⟩
instance Xi:Fc (Jj Tryz.prog 33 1 false=true):=⟨by kernel_rfl⟩
instance Ns:Q5 Tryz.prog 121 3:=⟨by kernel_rfl⟩
instance aK:Fc (Jj Tryz.prog 70 1 false=true):=⟨by kernel_rfl⟩
instance:Fc (Jj Tryz.prog 57 1 false=true):=⟨by kernel_rfl⟩
instance nQ:Q5 Tryz.prog 243 4:=⟨by kernel_rfl⟩
instance Uh:Q5 Tryz.prog 137 2:=⟨by kernel_rfl⟩
instance:Fc (Jj Tryz.prog 98 1 false=true):=⟨by kernel_rfl⟩
instance:Fc (Jj Tryz.prog 255 1 false=true):=⟨by kernel_rfl⟩
instance nO:Fc (Jj Tryz.prog 257 1 false=true):=⟨by kernel_rfl⟩
instance aN:Q5 Tryz.prog 259 4:=⟨by kernel_rfl⟩
instance T6:Q5 Tryz.prog 74 5:=⟨by kernel_rfl⟩
instance Sm:Fc (Jj Tryz.prog 9 1 false=true):=⟨by kernel_rfl⟩
instance gT:Fc (Jj Tryz.prog 5 1 false=true):=⟨by kernel_rfl⟩
instance tR:Fc (Jj Tryz.prog 25 1 false=true):=⟨by kernel_rfl⟩
instance tQ:Fc (Jj Tryz.prog 26 1 false=true):=⟨by kernel_rfl⟩
instance tP:Fc (Jj Tryz.prog 27 1 false=true):=⟨by kernel_rfl⟩
instance tO:Fc (Jj Tryz.prog 28 1 false=true):=⟨by kernel_rfl⟩
instance nM:Fc (Jj Tryz.prog 319 1 false=true):=⟨by kernel_rfl⟩
instance nK:Q5 Tryz.prog 353 2:=⟨by kernel_rfl⟩
instance aT:Q5 Tryz.prog 139 7:=⟨by kernel_rfl⟩
instance aQ:Q5 Tryz.prog 215 2:=⟨by kernel_rfl⟩
instance aP:Q5 Tryz.prog 217 5:=⟨by kernel_rfl⟩
instance aO:Q5 Tryz.prog 219 7:=⟨by kernel_rfl⟩
instance:Fc (Jj Tryz.prog 99 1 false=true):=⟨by kernel_rfl⟩
instance nN:Q5 Tryz.prog 290 2:=⟨by kernel_rfl⟩
instance nL:Q5 Tryz.prog 323 3:=⟨by kernel_rfl⟩
instance aR:Fc (Jj Tryz.prog 176 1 false=true):=⟨by kernel_rfl⟩
instance Sn:Q5 Tryz.prog 178 2:=⟨by kernel_rfl⟩
instance aS:Q5 Tryz.prog 175 3:=⟨by kernel_rfl⟩
instance Ug:Fc (Jj Tryz.prog 266 1 false=true):=⟨by kernel_rfl⟩
instance Oi:Fc (Jj Tryz.prog 267 1 false=true):=⟨by kernel_rfl⟩
instance:K7 CA 0 AB (·.R):=⟨XZ⟩
instance:K7 CA 1 AB (·.W):=⟨Tj⟩
instance:K7 CJ 2 AB (·.Ac):=⟨OL⟩
instance:K7 CJ 6 AB (·.Y):=⟨Dw.f_Num⟩
instance:K7 CJ 7 AB (·.T):=⟨Dw.f_Den⟩
instance:K7 L5 0 (A6.sl CA) (·.Az):=⟨QV⟩
instance:K7 L5 1 (A6.sl CA) (·.Ba):=⟨QY⟩
instance:K7 B7 1 AB (·.G):=⟨BL.f_Kind⟩
instance:K7 B7 3 AB (·.B):=⟨BL.f_To⟩
instance:K7 B7 4 (A6.sl CA) (·.Aw):=⟨K4⟩
instance:K7 B7 5 L5 (·.Ag):=⟨K5⟩
instance:K7 B7 7 AB (·.U):=⟨Fb⟩
instance:K7 B7 8 AB (·.Ad):=⟨KI⟩
instance:K7 B7 9 AB (·.Bc):=⟨OD⟩
instance:K7 B7 10 AB (·.Bd):=⟨NN⟩
instance:K7 B7 11 AB (·.Y):=⟨BL.f_Num⟩
instance:K7 B7 12 AB (·.T):=⟨BL.f_Den⟩
instance:K7 B7 13 AB (·.Ax):=⟨P3⟩
instance:K7 B7 14 AB (·.Ay):=⟨P4⟩
instance:K7 B7 15 AB (·.As):=⟨JL⟩
instance:K7 B7 16 AB (·.An):=⟨JM⟩
instance:K7 By 0 A6.str (·.J):=⟨AE.f_Name⟩
instance:K7 By 1 (A6.sl A6.str) (·.I):=⟨Hb⟩
instance:K7 By 2 AB (·.P):=⟨Mw⟩
instance:K7 By 3 (A6.sl CJ) (·.A):=⟨BZ⟩
instance:K7 By 4 (A6.sl B7) (·.F):=⟨Gn⟩
instance:K7 By 5 (A6.sl HO) (·.Ab):=⟨Ji⟩
instance:K7 By 6 (A6.sl Eh) (·.Ae):=⟨KP⟩
instance:K7 By 7 (A6.sl Gy) (·.Af):=⟨K6⟩
instance:K7 By 8 (A6.sl DD) (·.Ai):=⟨JV⟩
instance:K7 By 9 (A6.sl AB) (·.Al):=⟨AE.f_Room⟩
instance:K7 By 10 AB (·.S):=⟨AE.f_Err⟩
instance:K7 AZ 0 AB (·.Ao):=⟨Xa⟩
instance:K7 AZ 1 AB (·.B):=⟨AO.f_To⟩
instance:K7 AZ 2 (A6.sl AB) (·.K):=⟨AO.f_Part⟩
instance:K7 BJ 0 AB (·.V):=⟨R9⟩
instance:K7 BJ 3 A6.bool (·.Am):=⟨VT⟩
instance:K7 BA 0 AB (·.C):=⟨AF.f_Hour⟩
instance:K7 BA 1 (A6.sl (A6.sl AB)) (·.E):=⟨FL⟩
instance:K7 BA 2 (A6.sl AB) (·.M):=⟨Jx⟩
instance:K7 BA 3 (A6.sl AZ) (·.H):=⟨Fs⟩
instance:K7 BA 4 (A6.sl BJ) (·.O):=⟨Ix⟩
instance:K7 BA 5 (A6.sl AB) (·.N):=⟨I1⟩
instance:K7 BA 6 (A6.sl AB) (·.L):=⟨HI⟩
instance:K7 Gl 1 AB (·.Bg):=⟨P2⟩
instance:K7 Gl 2 AB (·.Bb):=⟨HV.f_Litres⟩
instance:K7 BO 1 AB (·.D):=⟨AI.f_From⟩
instance:K7 BO 2 AB (·.B):=⟨AI.f_To⟩
instance:K7 BO 4 (A6.sl AB) (·.K):=⟨AI.f_Part⟩
instance:K7 A0 0 AB (·.to_):=⟨LS⟩
instance:K7 A0 1 AB (·.delay):=⟨Mu⟩
instance:K7 A0 2 AB (·.way):=⟨Nl⟩
instance:K7 A0 3 (A6.fnr Tryz.prog (λS h vs (x:(List Int))=>∃w0:Value,vs=[w0]∧Sl S h AB w0 x) (λS h v (y:((List Int)×(List Int)))=>∃w0 w1:Value,v= .tuple #[w0,w1]∧Sl S h AB w0 y.1∧Sl S h AB w1 y.2)) (·.take):=⟨NF⟩
instance:K7 E3 0 A6.str (·.rest_):=⟨Lv⟩
instance:K7 E3 1 A6.bool (·.bad):=⟨Mt⟩
instance:K7 HZ 0 AB (·.hi):=⟨Ti⟩
instance:K7 HZ 1 (A6.intk .u64) (·.lo):=⟨Mv⟩
end Go.Proofs.YtedgiljmffngoaaGreat
