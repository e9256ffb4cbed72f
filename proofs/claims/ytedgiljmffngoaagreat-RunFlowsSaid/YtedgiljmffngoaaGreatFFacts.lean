import Derived.Test.YtedgiljmffngoaaGreatFReps
import Derived.Test.YtedgiljmffngoaaGreatRows
namespace Go.Proofs.YtedgiljmffngoaaGreat
set_option linter.all false
open Go.RowKit
open Go.Proofs.Tryz
def Xn:Cx prog 31=some [.string ByteArray.empty,.slice none 0 0,.int .i64 0,.slice none 0 0,.slice none 0 0,.slice none 0 0,.slice none 0 0,.slice none 0 0,.slice none 0 0,.slice none 0 0,.int .i64 0]:=by kernel_rfl
def VQ:ST prog 137=some ([(0,1),(1,1)],[.int .i64 0,.int .i64 0]):=by kernel_rfl
def cQ:M3 prog 98=some (137,2,16,[.int .i64 0,.int .i64 0]):=by kernel_rfl
def GC:M3 prog 29=some (3,1,8,[.int .i64 0]):=by kernel_rfl
def TQ:ST prog 101=some ([(0,1),(1,1),(2,1),(3,1),(4,1),(5,1),(6,1),(7,1),(8,1),(9,1),(10,1),(11,1)],[.string ByteArray.empty,.int .i64 0,.int .i64 0,.int .i64 0,.slice none 0 0,.slice none 0 0,.int .i64 0,.int .i64 0,.int .i64 0,.int .i64 0,.int .i64 0,.slice none 0 0]):=by kernel_rfl
def Lv:Cx prog 101=some [.string ByteArray.empty,.int .i64 0,.int .i64 0,.int .i64 0,.slice none 0 0,.slice none 0 0,.int .i64 0,.int .i64 0,.int .i64 0,.int .i64 0,.int .i64 0,.slice none 0 0]:=by kernel_rfl
def cT:M3 prog 22=some (9,1,16,[.string ByteArray.empty]):=by kernel_rfl
def cS:M3 prog 23=some (101,12,152,[.string ByteArray.empty,.int .i64 0,.int .i64 0,.int .i64 0,.slice none 0 0,.slice none 0 0,.int .i64 0,.int .i64 0,.int .i64 0,.int .i64 0,.int .i64 0,.slice none 0 0]):=by kernel_rfl
def bJ:ST prog 31=some ([(0,1),(1,1),(2,1),(3,1),(4,1),(5,1),(6,1),(7,1),(8,1),(9,1),(10,1)],[.string ByteArray.empty,.slice none 0 0,.int .i64 0,.slice none 0 0,.slice none 0 0,.slice none 0 0,.slice none 0 0,.slice none 0 0,.slice none 0 0,.slice none 0 0,.int .i64 0]):=by kernel_rfl
def cZ:BH prog 95=true:=by kernel_rfl
def MD:Cx prog 36=some [.int .i64 0,.slice none 0 0,.slice none 0 0,.slice none 0 0,.slice none 0 0,.slice none 0 0,.slice none 0 0]:=by kernel_rfl
def mo:prog.follows .mixedOrders=true:=by kernel_rfl
def VO:ST prog 36=some ([(0,1),(1,1),(2,1),(3,1),(4,1),(5,1),(6,1)],[.int .i64 0,.slice none 0 0,.slice none 0 0,.slice none 0 0,.slice none 0 0,.slice none 0 0,.slice none 0 0]):=by kernel_rfl
def NW:M3 prog 32=some (29,1,24,[.slice none 0 0]):=by kernel_rfl
def S5:M3 prog 34=some (106,4,24,[.int .i64 0,.int .i64 0,.bool false,.bool false]):=by kernel_rfl
def VK:∃e,prog.underlying 29=some (.slice e):=⟨3,by kernel_rfl⟩
def Od:BH prog 116=true:=by kernel_rfl
def dG:BH prog 41=true:=by kernel_rfl
def bI:ST prog 60=some ([(0,1),(1,1),(2,1),(3,1),(4,1)],[.slice none 0 0,.slice none 0 0,.slice none 0 0,.slice none 0 0,.slice none 0 0]):=by kernel_rfl
def cR:M3 prog 78=some (60,5,120,[.slice none 0 0,.slice none 0 0,.slice none 0 0,.slice none 0 0,.slice none 0 0]):=by kernel_rfl
def VJ:∃e,prog.underlying 34=some (.slice e):=⟨106,by kernel_rfl⟩
def Zu:BH prog 157=true:=by kernel_rfl
def dF:BH prog 78=true:=by kernel_rfl
def Yc:ST prog 160=some ([(0,11),(11,5),(16,7),(23,1),(24,1),(25,1)],[.string ByteArray.empty,.slice none 0 0,.int .i64 0,.slice none 0 0,.slice none 0 0,.slice none 0 0,.slice none 0 0,.slice none 0 0,.slice none 0 0,.slice none 0 0,.int .i64 0,.slice none 0 0,.slice none 0 0,.slice none 0 0,.slice none 0 0,.slice none 0 0,.int .i64 0,.slice none 0 0,.slice none 0 0,.slice none 0 0,.slice none 0 0,.slice none 0 0,.slice none 0 0,.slice none 0 0,.slice none 0 0,.slice none 0 0]):=by kernel_rfl
def YU:Cx prog 160=some [.string ByteArray.empty,.slice none 0 0,.int .i64 0,.slice none 0 0,.slice none 0 0,.slice none 0 0,.slice none 0 0,.slice none 0 0,.slice none 0 0,.slice none 0 0,.int .i64 0,.slice none 0 0,.slice none 0 0,.slice none 0 0,.slice none 0 0,.slice none 0 0,.int .i64 0,.slice none 0 0,.slice none 0 0,.slice none 0 0,.slice none 0 0,.slice none 0 0,.slice none 0 0,.slice none 0 0,.slice none 0 0,.slice none 0 0]:=by kernel_rfl
def OM:Cx prog 106=some [.int .i64 0,.int .i64 0,.bool false,.bool false]:=by kernel_rfl
def YS:Cx prog 232=some [.int .i64 0,.int .i64 0]:=by kernel_rfl
def NZ:BH prog 158=true:=by kernel_rfl
def Zt:BH prog 159=true:=by kernel_rfl
def R5:BH prog 205=true:=by kernel_rfl
def YT:Cx prog 210=some [.int .i64 0,.int .i64 0]:=by kernel_rfl
def Zw:BH prog 142=true:=by kernel_rfl
def PW:BH prog 111=true:=by kernel_rfl
def Pm:BH prog 70=true:=by kernel_rfl
def NC:Cx prog 117=some [.string ByteArray.empty,.int .i64 0,.int .i64 0,.int .i64 0,.slice none 0 0,.slice none 0 0,.slice none 0 0,.int .i64 0,.int .i64 0,.int .i64 0,.int .i64 0,.int .i64 0,.int .i64 0,.int .i64 0,.int .i64 0,.int .i64 0,.int .i64 0,.int .i64 0]:=by kernel_rfl
def Zs:BH prog 160=true:=by kernel_rfl
def dE:BH prog 79=true:=by kernel_rfl
def V2:BH prog 213=true:=by kernel_rfl
def YQ:Cx prog 251=some [.int .i64 0,.int .i64 0,.int .i64 0,.int .i64 0]:=by kernel_rfl
def Zr:BH prog 161=true:=by kernel_rfl
def dD:BH prog 80=true:=by kernel_rfl
def Ls:BH prog 18=true:=by kernel_rfl
def NB:Cx prog 121=some [.int .i64 0,.int .i64 0,.slice none 0 0]:=by kernel_rfl
def RQ:ST prog 74=some ([(0,1),(1,1),(2,1),(3,1),(4,1)],[.int .i64 0,.int .i64 0,.int .i64 0,.int .i64 0,.slice none 0 0]):=by kernel_rfl
def Rb:M3 prog 70=some (74,5,56,[.int .i64 0,.int .i64 0,.int .i64 0,.int .i64 0,.slice none 0 0]):=by kernel_rfl
def dC:BH prog 81=true:=by kernel_rfl
def Vq:BH prog 30=true:=by kernel_rfl
def TP:ST prog 121=some ([(0,1),(1,1),(2,1)],[.int .i64 0,.int .i64 0,.slice none 0 0]):=by kernel_rfl
def Pk:M3 prog 33=some (121,3,40,[.int .i64 0,.int .i64 0,.slice none 0 0]):=by kernel_rfl
def Zq:BH prog 162=true:=by kernel_rfl
def Zp:BH prog 163=true:=by kernel_rfl
def dB:BH prog 82=true:=by kernel_rfl
def Vt:BH prog 268=true:=by kernel_rfl
def ZV:BH prog 216=true:=by kernel_rfl
def YR:Cx prog 243=some [.int .i64 0,.int .i64 0,.int .i64 0,.int .i64 0]:=by kernel_rfl
def PG:ST prog 259=some ([(0,1),(1,1),(2,1),(3,1)],[.int .i64 0,.int .i64 0,.int .i64 0,.nilFunc]):=by kernel_rfl
def ZW:BH prog 215=true:=by kernel_rfl
def L7:M3 prog 255=some (259,4,32,[.int .i64 0,.int .i64 0,.int .i64 0,.nilFunc]):=by kernel_rfl
def Zn:BH prog 165=true:=by kernel_rfl
def Jp:prog.underlying 3=some (.int .i64):=by kernel_rfl
def Fi:prog.underlying 176=some (.int .u64):=by kernel_rfl
def Vv:BH prog 266=true:=by kernel_rfl
def TK:prog.underlying 5=some (.int .u8):=by kernel_rfl
def LG:prog.underlying 9=some .string:=by kernel_rfl
def Y7:BH prog 302=true:=by kernel_rfl
def ZA:BH prog 289=true:=by kernel_rfl
def TL:prog.underlying 186=some (.int .u64):=by kernel_rfl
def Vu:BH prog 267=true:=by kernel_rfl
def QZ:BH prog 212=true:=by kernel_rfl
def QX:BH prog 262=true:=by kernel_rfl
def Rj:Cx prog 137=some [.int .i64 0,.int .i64 0]:=by kernel_rfl
def Ob:BH prog 232=true:=by kernel_rfl
def Y5:BH prog 304=true:=by kernel_rfl
def Y6:BH prog 303=true:=by kernel_rfl
def Td:BH prog 288=true:=by kernel_rfl
def ZK:BH prog 264=true:=by kernel_rfl
def ZL:BH prog 263=true:=by kernel_rfl
def ZY:BH prog 210=true:=by kernel_rfl
def Vx:BH prog 242=true:=by kernel_rfl
def Xo:Cx prog 29=some [.slice none 0 0]:=by kernel_rfl
def cO:fF prog 29=true:=by kernel_rfl
def Y8:BH prog 291=true:=by kernel_rfl
def ZH:BH prog 271=true:=by kernel_rfl
def ZS:BH prog 220=true:=by kernel_rfl
def Vw:BH prog 265=true:=by kernel_rfl
def ZU:BH prog 217=true:=by kernel_rfl
def Qc:BH prog 168=true:=by kernel_rfl
def QY:BH prog 219=true:=by kernel_rfl
def V3:BH prog 211=true:=by kernel_rfl
def Zm:BH prog 166=true:=by kernel_rfl
def Y4:M3 prog 304=some (255,1,24,[.slice none 0 0]):=by kernel_rfl
def eN:prog.underlying 3=some (.int .i64):=by kernel_rfl
def ZX:BH prog 214=true:=by kernel_rfl
def Zo:BH prog 164=true:=by kernel_rfl
def Y9:BH prog 290=true:=by kernel_rfl
def ZI:BH prog 270=true:=by kernel_rfl
def ZJ:BH prog 269=true:=by kernel_rfl
def ZT:BH prog 218=true:=by kernel_rfl
def YP:Cx prog 259=some [.int .i64 0,.int .i64 0,.int .i64 0,.nilFunc]:=by kernel_rfl
def Tg:BH prog 167=true:=by kernel_rfl
def Zv:BH prog 156=true:=by kernel_rfl
def dA:BH prog 83=true:=by kernel_rfl
def Xm:Cx prog 60=some [.slice none 0 0,.slice none 0 0,.slice none 0 0,.slice none 0 0,.slice none 0 0]:=by kernel_rfl
def YD:BH prog 21=true:=by kernel_rfl
def X4:M3 prog 80=some (36,7,152,[.int .i64 0,.slice none 0 0,.slice none 0 0,.slice none 0 0,.slice none 0 0,.slice none 0 0,.slice none 0 0]):=by kernel_rfl
def dN:BH prog 26=true:=by kernel_rfl
def SW:Cx prog 74=some [.int .i64 0,.int .i64 0,.int .i64 0,.int .i64 0,.slice none 0 0]:=by kernel_rfl
def Re:BH prog 36=true:=by kernel_rfl
def Zk:BH prog 170=true:=by kernel_rfl
def ZG:BH prog 272=true:=by kernel_rfl
def NY:BH prog 221=true:=by kernel_rfl
def ZF:BH prog 273=true:=by kernel_rfl
def Tf:BH prog 222=true:=by kernel_rfl
def ZE:BH prog 274=true:=by kernel_rfl
def PV:BH prog 223=true:=by kernel_rfl
def Yd:ST prog 106=some ([(0,1),(1,1),(2,1),(3,1)],[.int .i64 0,.int .i64 0,.bool false,.bool false]):=by kernel_rfl
def ZR:BH prog 224=true:=by kernel_rfl
def Zl:BH prog 169=true:=by kernel_rfl
def V4:BH prog 187=true:=by kernel_rfl
def Zx:BH prog 109=true:=by kernel_rfl
def V6:BH prog 110=true:=by kernel_rfl
def VA:Cx prog 269=some [.pointer none,.slice none 0 0]:=by kernel_rfl
def NX:M3 prog 267=some (5,1,1,[.int .u8 0]):=by kernel_rfl
def ZD:BH prog 276=true:=by kernel_rfl
def V0:BH prog 226=true:=by kernel_rfl
def VM:prog.underlying 267=some (.slice 5):=by kernel_rfl
def bE:prog.underlying 5=some (.int .u8):=by kernel_rfl
def L8:BH prog 172=true:=by kernel_rfl
def Jk:BH prog 171=true:=by kernel_rfl
def Vs:BH prog 277=true:=by kernel_rfl
def V5:BH prog 174=true:=by kernel_rfl
def ZQ:BH prog 227=true:=by kernel_rfl
def Qb:BH prog 173=true:=by kernel_rfl
def dK:BH prog 34=true:=by kernel_rfl
def X8:BH prog 97=true:=by kernel_rfl
def X9:BH prog 96=true:=by kernel_rfl
def Qd:BH prog 113=true:=by kernel_rfl
def dH:BH prog 38=true:=by kernel_rfl
def E2:BH prog 228=true:=by kernel_rfl
def IA:BH prog 229=true:=by kernel_rfl
def YN:Cx prog 319=some [.map none]:=by kernel_rfl
def eI:Cx prog 4=some [.bool false]:=by kernel_rfl
def Ya:ST prog 353=some ([(0,1),(1,1)],[.string ByteArray.empty,.string ByteArray.empty]):=by kernel_rfl
def YK:Cx prog 353=some [.string ByteArray.empty,.string ByteArray.empty]:=by kernel_rfl
def ZC:BH prog 278=true:=by kernel_rfl
def VL:prog.underlying 319=some (.map 353 4):=by kernel_rfl
def Yx:W6 prog 353=some [3,3]:=by kernel_rfl
def UC:MV prog 353 (λk:AG=>Value.agg (AG.v k).toArray):=MV.agg (f:=AG.v) underlying353 Yx (λk=>rfl) (λa b=>rfl) (λk e w=>by kernel_rfl) (λa b c=>by
 simp only[AG.v,Uz,Wm,gG,PY,hO,beq_iff_eq] at c;simp [AG.v,c]) (λa=>by simp [Instr.sameBits,AG.v,PY.2])
def eH:∀w,(zeroValue 4).run prog w= .ok (.bool false) w:=λw=>by kernel_rfl
def ZP:BH prog 231=true:=by kernel_rfl
def Oc:BH prog 230=true:=by kernel_rfl
def VF:Cx prog 139=some [.string ByteArray.empty,.int .i64 0,.int .i64 0,.int .i64 0,.int .i64 0,.int .i64 0,.int .i64 0]:=by kernel_rfl
def VD:Cx prog 215=some [.string ByteArray.empty,.int .i64 0]:=by kernel_rfl
def VC:Cx prog 217=some [.string ByteArray.empty,.int .i64 0,.int .i64 0,.int .i64 0,.int .i64 0]:=by kernel_rfl
def VB:Cx prog 219=some [.string ByteArray.empty,.int .i64 0,.int .i64 0,.int .i64 0,.int .i64 0,.int .i64 0,.int .i64 0]:=by kernel_rfl
def Oa:BH prog 235=true:=by kernel_rfl
def Te:BH prog 233=true:=by kernel_rfl
def Vz:BH prog 234=true:=by kernel_rfl
def YO:Cx prog 290=some [.int .i64 0,.int .i64 0]:=by kernel_rfl
def Vr:BH prog 279=true:=by kernel_rfl
def ZO:BH prog 236=true:=by kernel_rfl
def ZN:BH prog 237=true:=by kernel_rfl
def Vy:BH prog 238=true:=by kernel_rfl
def PU:BH prog 239=true:=by kernel_rfl
def Y3:M3 prog 354=some (98,1,24,[.slice none 0 0]):=by kernel_rfl
def ZM:BH prog 240=true:=by kernel_rfl
def Z8:eD prog 323=some ([(0,1),(1,1),(2,1)],[.int .i64 0,.int .i64 0,.int .i64 0]):=by kernel_rfl
def YM:Cx prog 323=some [.int .i64 0,.int .i64 0,.int .i64 0]:=by kernel_rfl
def Z6:fI prog 323 3 1=true:=by kernel_rfl
def Zj:BH prog 175=true:=by kernel_rfl
def Zi:BH prog 176=true:=by kernel_rfl
def Zh:BH prog 177=true:=by kernel_rfl
def Zg:BH prog 178=true:=by kernel_rfl
def Zf:BH prog 179=true:=by kernel_rfl
def Ze:BH prog 180=true:=by kernel_rfl
def Zd:BH prog 181=true:=by kernel_rfl
def Zc:BH prog 182=true:=by kernel_rfl
def Zb:BH prog 183=true:=by kernel_rfl
def cY:BH prog 98=true:=by kernel_rfl
def Qe:BH prog 105=true:=by kernel_rfl
def Z0:BH prog 106=true:=by kernel_rfl
def Zz:BH prog 107=true:=by kernel_rfl
def Y0:W6 prog 106=some [1,1,2,2]:=by kernel_rfl
def Zy:BH prog 108=true:=by kernel_rfl
def YA:BH prog 32=true:=by kernel_rfl
def dM:BH prog 27=true:=by kernel_rfl
def Qa:BH prog 184=true:=by kernel_rfl
def X7:BH prog 99=true:=by kernel_rfl
def Z2:BH prog 100=true:=by kernel_rfl
def TH:Cx prog 178=some [.int .i64 0,.int .u64 0]:=by kernel_rfl
def TJ:∀x y c:Int,IntKind.has .u64 x→IntKind.has .u64 y→(0≤c∧c≤1)→∀w,(callFunc 112 #[.int .u64 x,.int .u64 y,.int .u64 c]).run prog w= .ok (.value (.tuple #[.int .u64 (GG x y c).1,.int .u64 (GG x y c).2])) w:=SZ func112 (by kernel_rfl) (by kernel_rfl) (by kernel_rfl) (by kernel_rfl)
def TO:ST prog 178=some ([(0,1),(1,1)],[.int .i64 0,.int .u64 0]):=by kernel_rfl
def VP:ST prog 175=some ([(0,1),(1,1),(2,1)],[.int .i64 0,.int .i64 0,.int .i64 0]):=by kernel_rfl
def VE:Cx prog 175=some [.int .i64 0,.int .i64 0,.int .i64 0]:=by kernel_rfl
def QC:prog.underlying 170=some (.map 175 178):=by kernel_rfl
def Yz:W6 prog 175=some [1,1,1]:=by kernel_rfl
def P4:MV prog 175 (λk:AC=>Value.agg (AC.v k).toArray):=MV.agg (f:=AC.v) underlying175 Yz (λk=>rfl) (λa b=>rfl) (λk e w=>by kernel_rfl) (λa b c=>by
 simp only[AC.v,Uz,Wm,gG,PY,hO,beq_iff_eq] at c;simp [AC.v,c]) (λa=>by simp [Instr.sameBits,AC.v,PY.2])
def U9:∀w,(zeroValue 178).run prog w= .ok ((λk:AH=>Value.agg #[.int .i64 (BG k.hi),.int .u64 (IntKind.wrap .u64 k.lo)]) (⟨0,0⟩:AH)) w:=λw=>by kernel_rfl
def Za:BH prog 185=true:=by kernel_rfl
def Vb:∀x:AH,AH.ok x→(λk:AH=>Value.agg #[.int .i64 (BG k.hi),.int .u64 (IntKind.wrap .u64 k.lo)]) x=Value.agg (AH.v x).toArray:=λx b=>by obtain⟨h0,a⟩:=b;simp only[JZ h0,Ty a]
def Qf:BH prog 102=true:=by kernel_rfl
def V7:BH prog 101=true:=by kernel_rfl
def YV:∀x y c:Int,IntKind.has .u64 x→IntKind.has .u64 y→(0≤c∧c≤1)→∀w,(callFunc 241 #[.int .u64 x,.int .u64 y,.int .u64 c]).run prog w= .ok (.value (.tuple #[.int .u64 (KR x y c).1,.int .u64 (KR x y c).2])) w:=SY func241 (by kernel_rfl) (by kernel_rfl) (by kernel_rfl) (by kernel_rfl)
def ZZ:BH prog 186=true:=by kernel_rfl
def Oe:BH prog 103=true:=by kernel_rfl
def Z1:BH prog 104=true:=by kernel_rfl
def Yy:W6 prog 178=some [1,1]:=by kernel_rfl
def YB:BH prog 28=true:=by kernel_rfl
def dO:BH prog 24=true:=by kernel_rfl
def dJ:BH prog 35=true:=by kernel_rfl
def dI:BH prog 37=true:=by kernel_rfl
def dL:BH prog 33=true:=by kernel_rfl
def QB:prog.underlying 266=some (.pointer 269):=by kernel_rfl
def VI:prog.underlying 348=some .unsafePointer:=by kernel_rfl
def QS:(prog.info? 269).map (·.size)=some 2:=by kernel_rfl
def Yr:liesAt prog prog.depth 269 (2/prog.cellsOf 269) 0 269 1=true:=by kernel_rfl
def YZ:prog.underlying 318=some (.pointer 5):=by kernel_rfl
def fH:prog.cellsOf 5=1:=by kernel_rfl
def V1:BH prog 225=true:=by kernel_rfl
def Yb:ST prog 315=some ([(0,1),(1,1)],[.string ByteArray.empty,.bool false]):=by kernel_rfl
end Go.Proofs.YtedgiljmffngoaaGreat
