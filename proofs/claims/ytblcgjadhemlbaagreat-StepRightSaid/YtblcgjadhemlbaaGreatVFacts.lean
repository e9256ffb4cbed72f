import Derived.Test.YtblcgjadhemlbaaGreatVReps
import Derived.Test.YtblcgjadhemlbaaGreatRows
namespace Go.Proofs.YtblcgjadhemlbaaGreat
set_option linter.all false
open Go.RowKit
open Go.Proofs.Tryz
def Zu:E8 prog 31=some [.string ByteArray.empty,.slice none 0 0,.int .i64 0,.slice none 0 0,.slice none 0 0,.slice none 0 0,.slice none 0 0,.slice none 0 0,.slice none 0 0,.slice none 0 0,.int .i64 0]:=by kernel_rfl
def eZ:UF prog 98=some ([(0,1),(1,1)],[.int .i64 0,.int .i64 0]):=by kernel_rfl
def gT:Na prog 53=some (98,2,16,[.int .i64 0,.int .i64 0]):=by kernel_rfl
def GK:Na prog 29=some (3,1,8,[.int .i64 0]):=by kernel_rfl
def fC:UF prog 56=some ([(0,1),(1,1),(2,1),(3,1),(4,1),(5,1),(6,1),(7,1),(8,1),(9,1),(10,1),(11,1)],[.string ByteArray.empty,.int .i64 0,.int .i64 0,.int .i64 0,.slice none 0 0,.slice none 0 0,.int .i64 0,.int .i64 0,.int .i64 0,.int .i64 0,.int .i64 0,.slice none 0 0]):=by kernel_rfl
def O2:E8 prog 56=some [.string ByteArray.empty,.int .i64 0,.int .i64 0,.int .i64 0,.slice none 0 0,.slice none 0 0,.int .i64 0,.int .i64 0,.int .i64 0,.int .i64 0,.int .i64 0,.slice none 0 0]:=by kernel_rfl
def KX:Iz prog 56 12 true=true:=by kernel_rfl
def gW:Na prog 22=some (9,1,16,[.string ByteArray.empty]):=by kernel_rfl
def gV:Na prog 23=some (56,12,152,[.string ByteArray.empty,.int .i64 0,.int .i64 0,.int .i64 0,.slice none 0 0,.slice none 0 0,.int .i64 0,.int .i64 0,.int .i64 0,.int .i64 0,.int .i64 0,.slice none 0 0]):=by kernel_rfl
def fE:UF prog 31=some ([(0,1),(1,1),(2,1),(3,1),(4,1),(5,1),(6,1),(7,1),(8,1),(9,1),(10,1)],[.string ByteArray.empty,.slice none 0 0,.int .i64 0,.slice none 0 0,.slice none 0 0,.slice none 0 0,.slice none 0 0,.slice none 0 0,.slice none 0 0,.slice none 0 0,.int .i64 0]):=by kernel_rfl
def HS:Iz prog 31 11 true=true:=by kernel_rfl
def jO:CB prog 26=true:=by kernel_rfl
def O3:E8 prog 36=some [.int .i64 0,.slice none 0 0,.slice none 0 0,.slice none 0 0,.slice none 0 0,.slice none 0 0,.slice none 0 0]:=by kernel_rfl
def mo:prog.follows .mixedOrders=true:=by kernel_rfl
def Do:GN prog 31 3 3=true:=by kernel_rfl
def Gu:Iz prog 23 1 false=true:=by kernel_rfl
def Fy:K2 prog 23 56 12=true:=by kernel_rfl
def H1:GN prog 31 4 4=true:=by kernel_rfl
def KY:Iz prog 24 1 false=true:=by kernel_rfl
def Io:K2 prog 24 67 18=true:=by kernel_rfl
def If:GN prog 31 1 1=true:=by kernel_rfl
def LA:Iz prog 22 1 false=true:=by kernel_rfl
def Kt:K2 prog 22 9 1=true:=by kernel_rfl
def fD:UF prog 36=some ([(0,1),(1,1),(2,1),(3,1),(4,1),(5,1),(6,1)],[.int .i64 0,.slice none 0 0,.slice none 0 0,.slice none 0 0,.slice none 0 0,.slice none 0 0,.slice none 0 0]):=by kernel_rfl
def X9:Na prog 32=some (29,1,24,[.slice none 0 0]):=by kernel_rfl
def X8:Na prog 34=some (69,4,24,[.int .i64 0,.int .i64 0,.bool false,.bool false]):=by kernel_rfl
def Hs:Iz prog 36 7 true=true:=by kernel_rfl
def Wc:∃e,prog.underlying 29=some (.slice e):=⟨3,by kernel_rfl⟩
def Eo:GN prog 36 1 1=true:=by kernel_rfl
def Hz:Iz prog 32 1 false=true:=by kernel_rfl
def SJ:GN prog 56 5 5=true:=by kernel_rfl
def CG:Iz prog 29 1 false=true:=by kernel_rfl
def QS:CB prog 39=true:=by kernel_rfl
def Fx:K2 prog 32 29 1=true:=by kernel_rfl
def aW:CB prog 15=true:=by kernel_rfl
def SR:GN prog 31 0 0=true:=by kernel_rfl
def Ql:Iz prog 9 1 false=true:=by kernel_rfl
def Qk:prog.underlying 9=some .string:=by kernel_rfl
def IZ:CB prog 68=true:=by kernel_rfl
def SQ:GN prog 31 2 2=true:=by kernel_rfl
def A7:Iz prog 3 1 false=true:=by kernel_rfl
def OU:GN prog 31 5 5=true:=by kernel_rfl
def Sz:Iz prog 25 1 false=true:=by kernel_rfl
def P1:K2 prog 25 124 7=true:=by kernel_rfl
def SP:GN prog 31 6 6=true:=by kernel_rfl
def Wh:Iz prog 26 1 false=true:=by kernel_rfl
def TJ:K2 prog 26 128 5=true:=by kernel_rfl
def SO:GN prog 31 7 7=true:=by kernel_rfl
def Wg:Iz prog 27 1 false=true:=by kernel_rfl
def TI:K2 prog 27 130 7=true:=by kernel_rfl
def Pp:GN prog 31 8 8=true:=by kernel_rfl
def Ut:Iz prog 28 1 false=true:=by kernel_rfl
def RC:K2 prog 28 126 2=true:=by kernel_rfl
def VT:GN prog 31 9 9=true:=by kernel_rfl
def CA:K2 prog 29 3 1=true:=by kernel_rfl
def Xk:GN prog 31 10 10=true:=by kernel_rfl
def KB:CB prog 69=true:=by kernel_rfl
def bE:E8 prog 120=some [.map none]:=by kernel_rfl
def Wj:Iz prog 120 1 false=true:=by kernel_rfl
def kW:E8 prog 4=some [.bool false]:=by kernel_rfl
def PH:Iz prog 4 1 false=true:=by kernel_rfl
def bN:UF prog 151=some ([(0,1),(1,1)],[.string ByteArray.empty,.string ByteArray.empty]):=by kernel_rfl
def bB:E8 prog 151=some [.string ByteArray.empty,.string ByteArray.empty]:=by kernel_rfl
def UA:Iz prog 151 2 true=true:=by kernel_rfl
def iB:CB prog 92=true:=by kernel_rfl
def Wf:prog.underlying 120=some (.map 151 4):=by kernel_rfl
def cK:cL prog 151=some [3,3]:=by kernel_rfl
def VF:NC prog 151 (λk:AQ=>Value.agg (AQ.v k).toArray):=NC.agg (f:=AQ.v) underlying151 cK (λk=>rfl) (λa b=>rfl) (λk e w=>by kernel_rfl) (λa b c=>by
 simp only[AQ.v,X7,ZO,mY,SW,nR,beq_iff_eq] at c
 simp [AQ.v,c]) (λa=>by simp [Instr.sameBits,AQ.v,SW.2])
def kV:∀w,(zeroValue 4).run prog w= .ok (.bool false) w:=λw=>by kernel_rfl
def iL:CB prog 71=true:=by kernel_rfl
def QR:CB prog 70=true:=by kernel_rfl
def ZN:GN prog 56 0 0=true:=by kernel_rfl
def IJ:Iz prog 67 18 true=true:=by kernel_rfl
def O1:E8 prog 67=some [.string ByteArray.empty,.int .i64 0,.int .i64 0,.int .i64 0,.slice none 0 0,.slice none 0 0,.slice none 0 0,.int .i64 0,.int .i64 0,.int .i64 0,.int .i64 0,.int .i64 0,.int .i64 0,.int .i64 0,.int .i64 0,.int .i64 0,.int .i64 0,.int .i64 0]:=by kernel_rfl
def ZK:GN prog 67 0 0=true:=by kernel_rfl
def Rn:Iz prog 124 7 true=true:=by kernel_rfl
def WY:E8 prog 124=some [.string ByteArray.empty,.int .i64 0,.int .i64 0,.int .i64 0,.int .i64 0,.int .i64 0,.int .i64 0]:=by kernel_rfl
def X1:GN prog 124 0 0=true:=by kernel_rfl
def Rm:Iz prog 126 2 true=true:=by kernel_rfl
def WX:E8 prog 126=some [.string ByteArray.empty,.int .i64 0]:=by kernel_rfl
def Xu:GN prog 126 0 0=true:=by kernel_rfl
def Rl:Iz prog 128 5 true=true:=by kernel_rfl
def WW:E8 prog 128=some [.string ByteArray.empty,.int .i64 0,.int .i64 0,.int .i64 0,.int .i64 0]:=by kernel_rfl
def Xs:GN prog 128 0 0=true:=by kernel_rfl
def Rk:Iz prog 130 7 true=true:=by kernel_rfl
def WV:E8 prog 130=some [.string ByteArray.empty,.int .i64 0,.int .i64 0,.int .i64 0,.int .i64 0,.int .i64 0,.int .i64 0]:=by kernel_rfl
def Xo:GN prog 130 0 0=true:=by kernel_rfl
def Im:K2 prog 53 98 2=true:=by kernel_rfl
def O4:Iz prog 98 2 true=true:=by kernel_rfl
def Un:E8 prog 98=some [.int .i64 0,.int .i64 0]:=by kernel_rfl
def JY:GN prog 98 0 0=true:=by kernel_rfl
def I1:GN prog 98 1 1=true:=by kernel_rfl
def QP:CB prog 75=true:=by kernel_rfl
def ZM:GN prog 56 1 1=true:=by kernel_rfl
def MG:GN prog 56 2 2=true:=by kernel_rfl
def SH:GN prog 56 9 9=true:=by kernel_rfl
def SK:GN prog 56 3 3=true:=by kernel_rfl
def Xj:GN prog 56 10 10=true:=by kernel_rfl
def ZL:GN prog 56 4 4=true:=by kernel_rfl
def I4:Iz prog 53 1 false=true:=by kernel_rfl
def QQ:CB prog 72=true:=by kernel_rfl
def SI:GN prog 56 6 6=true:=by kernel_rfl
def Lb:GN prog 56 7 7=true:=by kernel_rfl
def YI:CB prog 73=true:=by kernel_rfl
def Po:GN prog 56 8 8=true:=by kernel_rfl
def aQ:CB prog 74=true:=by kernel_rfl
def Xi:GN prog 56 11 11=true:=by kernel_rfl
def eX:Iz prog 54 1 false=true:=by kernel_rfl
def Z9:K2 prog 54 134 2=true:=by kernel_rfl
def Wi:Iz prog 134 2 true=true:=by kernel_rfl
def bD:E8 prog 134=some [.int .i64 0,.int .i64 0]:=by kernel_rfl
def QK:GN prog 134 0 0=true:=by kernel_rfl
def Xl:GN prog 134 1 1=true:=by kernel_rfl
def G5:GN prog 67 1 1=true:=by kernel_rfl
def Oj:prog.underlying 3=some (.int .i64):=by kernel_rfl
def T9:prog.underlying 164=some (.int .u64):=by kernel_rfl
def cU:CB prog 111=true:=by kernel_rfl
def cV:CB prog 110=true:=by kernel_rfl
def Lf:prog.underlying 154=some (.int .u64):=by kernel_rfl
def aK:CB prog 94=true:=by kernel_rfl
def eV:prog.underlying 5=some (.int .u8):=by kernel_rfl
def cT:CB prog 112=true:=by kernel_rfl
def dA:CB prog 103=true:=by kernel_rfl
def aJ:CB prog 95=true:=by kernel_rfl
def Tu:CB prog 88=true:=by kernel_rfl
def Ua:CB prog 102=true:=by kernel_rfl
def NN:GN prog 67 4 4=true:=by kernel_rfl
def LY:GN prog 67 5 5=true:=by kernel_rfl
def Pn:GN prog 65 0 0=true:=by kernel_rfl
def Pm:GN prog 65 1 1=true:=by kernel_rfl
def aL:CB prog 93=true:=by kernel_rfl
def Jr:GN prog 67 6 7=true:=by kernel_rfl
def ON:GN prog 67 7 8=true:=by kernel_rfl
def SG:GN prog 67 8 9=true:=by kernel_rfl
def LI:GN prog 67 14 15=true:=by kernel_rfl
def Ka:GN prog 67 15 16=true:=by kernel_rfl
def Id:GN prog 67 3 3=true:=by kernel_rfl
def SF:GN prog 67 9 10=true:=by kernel_rfl
def I8:GN prog 67 10 11=true:=by kernel_rfl
def Jt:GN prog 67 11 12=true:=by kernel_rfl
def OR:GN prog 67 12 13=true:=by kernel_rfl
def OQ:GN prog 67 13 14=true:=by kernel_rfl
def Js:GN prog 67 2 2=true:=by kernel_rfl
def OP:GN prog 67 16 17=true:=by kernel_rfl
def iK:CB prog 76=true:=by kernel_rfl
def iJ:CB prog 77=true:=by kernel_rfl
def aP:CB prog 78=true:=by kernel_rfl
def Ra:CB prog 79=true:=by kernel_rfl
def W1:K2 prog 158 53 1=true:=by kernel_rfl
def cN:Na prog 158=some (53,1,24,[.slice none 0 0]):=by kernel_rfl
def iI:CB prog 80=true:=by kernel_rfl
def X0:GN prog 124 1 1=true:=by kernel_rfl
def Xz:GN prog 124 2 2=true:=by kernel_rfl
def Xy:GN prog 124 3 3=true:=by kernel_rfl
def Xx:GN prog 124 4 4=true:=by kernel_rfl
def Xw:GN prog 124 5 5=true:=by kernel_rfl
def Xv:GN prog 124 6 6=true:=by kernel_rfl
def Xt:GN prog 126 1 1=true:=by kernel_rfl
def Tn:GN prog 128 1 1=true:=by kernel_rfl
def Xq:GN prog 128 3 3=true:=by kernel_rfl
def Xp:GN prog 128 4 4=true:=by kernel_rfl
def dG:kQ prog 137=some ([(0,1),(1,1),(2,1)],[.int .i64 0,.int .i64 0,.int .i64 0]):=by kernel_rfl
def bC:E8 prog 137=some [.int .i64 0,.int .i64 0,.int .i64 0]:=by kernel_rfl
def bL:Iz prog 137 3 true=true:=by kernel_rfl
def Xr:GN prog 128 2 2=true:=by kernel_rfl
def dE:lR prog 137 3 1=true:=by kernel_rfl
def Tm:GN prog 130 1 1=true:=by kernel_rfl
def Tl:GN prog 130 2 2=true:=by kernel_rfl
def Xn:GN prog 130 3 3=true:=by kernel_rfl
def Xm:GN prog 130 4 4=true:=by kernel_rfl
def Tk:GN prog 130 6 6=true:=by kernel_rfl
def QL:GN prog 130 5 5=true:=by kernel_rfl
def jB:CB prog 47=true:=by kernel_rfl
def jA:CB prog 48=true:=by kernel_rfl
def iZ:CB prog 49=true:=by kernel_rfl
def iY:CB prog 50=true:=by kernel_rfl
def iX:CB prog 51=true:=by kernel_rfl
def iW:CB prog 52=true:=by kernel_rfl
def iV:CB prog 53=true:=by kernel_rfl
def iU:CB prog 54=true:=by kernel_rfl
def iT:CB prog 55=true:=by kernel_rfl
def H0:GN prog 36 0 0=true:=by kernel_rfl
def KP:GN prog 36 2 2=true:=by kernel_rfl
def Ie:GN prog 36 4 4=true:=by kernel_rfl
def K9:Iz prog 34 1 false=true:=by kernel_rfl
def Ks:K2 prog 34 69 4=true:=by kernel_rfl
def K3:GN prog 36 5 5=true:=by kernel_rfl
def Jv:GN prog 36 6 6=true:=by kernel_rfl
def He:Iz prog 69 4 true=true:=by kernel_rfl
def Sv:E8 prog 69=some [.int .i64 0,.int .i64 0,.bool false,.bool false]:=by kernel_rfl
def NM:GN prog 69 0 0=true:=by kernel_rfl
def Pk:GN prog 69 1 1=true:=by kernel_rfl
def OM:GN prog 69 3 3=true:=by kernel_rfl
def aM:CB prog 91=true:=by kernel_rfl
def Rb:CB prog 36=true:=by kernel_rfl
def aR:CB prog 67=true:=by kernel_rfl
def Nj:CB prog 59=true:=by kernel_rfl
def KO:GN prog 36 3 3=true:=by kernel_rfl
def Lp:Iz prog 33 1 false=true:=by kernel_rfl
def KA:K2 prog 33 60 3=true:=by kernel_rfl
def LU:Iz prog 60 3 true=true:=by kernel_rfl
def Q4:E8 prog 60=some [.int .i64 0,.int .i64 0,.slice none 0 0]:=by kernel_rfl
def OT:GN prog 60 0 0=true:=by kernel_rfl
def La:GN prog 60 1 1=true:=by kernel_rfl
def PC:CB prog 57=true:=by kernel_rfl
def LZ:GN prog 60 2 2=true:=by kernel_rfl
def jG:CB prog 37=true:=by kernel_rfl
def aS:CB prog 38=true:=by kernel_rfl
def aU:CB prog 27=true:=by kernel_rfl
def Ty:CB prog 14=true:=by kernel_rfl
def Z7:UF prog 42=some ([(0,1),(1,1),(2,1),(3,1),(4,1)],[.slice none 0 0,.slice none 0 0,.slice none 0 0,.slice none 0 0,.slice none 0 0]):=by kernel_rfl
def Wb:∃e,prog.underlying 34=some (.slice e):=⟨69,by kernel_rfl⟩
def iS:CB prog 56=true:=by kernel_rfl
def Us:Iz prog 42 5 true=true:=by kernel_rfl
def jM:CB prog 29=true:=by kernel_rfl
def fA:UF prog 84=some ([(0,11),(11,5),(16,7),(23,1),(24,1),(25,1)],[.string ByteArray.empty,.slice none 0 0,.int .i64 0,.slice none 0 0,.slice none 0 0,.slice none 0 0,.slice none 0 0,.slice none 0 0,.slice none 0 0,.slice none 0 0,.int .i64 0,.slice none 0 0,.slice none 0 0,.slice none 0 0,.slice none 0 0,.slice none 0 0,.int .i64 0,.slice none 0 0,.slice none 0 0,.slice none 0 0,.slice none 0 0,.slice none 0 0,.slice none 0 0,.slice none 0 0,.slice none 0 0,.slice none 0 0]):=by kernel_rfl
def eK:E8 prog 84=some [.string ByteArray.empty,.slice none 0 0,.int .i64 0,.slice none 0 0,.slice none 0 0,.slice none 0 0,.slice none 0 0,.slice none 0 0,.slice none 0 0,.slice none 0 0,.int .i64 0,.slice none 0 0,.slice none 0 0,.slice none 0 0,.slice none 0 0,.slice none 0 0,.int .i64 0,.slice none 0 0,.slice none 0 0,.slice none 0 0,.slice none 0 0,.slice none 0 0,.slice none 0 0,.slice none 0 0,.slice none 0 0,.slice none 0 0]:=by kernel_rfl
def eW:Iz prog 84 26 true=true:=by kernel_rfl
def NL:GN prog 84 1 11=true:=by kernel_rfl
def VS:GN prog 42 1 1=true:=by kernel_rfl
def Z3:Iz prog 37 1 false=true:=by kernel_rfl
def W0:K2 prog 37 71 2=true:=by kernel_rfl
def SE:GN prog 69 2 2=true:=by kernel_rfl
def Zz:Iz prog 71 2 true=true:=by kernel_rfl
def eN:E8 prog 71=some [.int .i64 0,.int .i64 0]:=by kernel_rfl
def Pj:GN prog 71 1 1=true:=by kernel_rfl
def G4:GN prog 84 0 0=true:=by kernel_rfl
def DI:GN prog 84 2 16=true:=by kernel_rfl
def ZJ:GN prog 71 0 0=true:=by kernel_rfl
def jS:CB prog 21=true:=by kernel_rfl
def VR:GN prog 42 2 2=true:=by kernel_rfl
def Z2:Iz prog 38 1 false=true:=by kernel_rfl
def Wz:K2 prog 38 74 2=true:=by kernel_rfl
def VY:CB prog 45=true:=by kernel_rfl
def Zy:Iz prog 74 2 true=true:=by kernel_rfl
def eM:E8 prog 74=some [.int .i64 0,.int .i64 0]:=by kernel_rfl
def Pi:GN prog 74 0 0=true:=by kernel_rfl
def ZI:GN prog 74 1 1=true:=by kernel_rfl
def jR:CB prog 22=true:=by kernel_rfl
def Tw:CB prog 46=true:=by kernel_rfl
def jP:CB prog 24=true:=by kernel_rfl
def jL:CB prog 30=true:=by kernel_rfl
def VP:GN prog 42 4 4=true:=by kernel_rfl
def Z0:Iz prog 40 1 false=true:=by kernel_rfl
def Wx:K2 prog 40 103 4=true:=by kernel_rfl
def aO:CB prog 81=true:=by kernel_rfl
def Wl:Iz prog 103 4 true=true:=by kernel_rfl
def bG:E8 prog 103=some [.int .i64 0,.int .i64 0,.int .i64 0,.int .i64 0]:=by kernel_rfl
def QN:GN prog 103 0 0=true:=by kernel_rfl
def Tp:GN prog 103 1 1=true:=by kernel_rfl
def To:GN prog 103 2 2=true:=by kernel_rfl
def X5:GN prog 103 3 3=true:=by kernel_rfl
def iR:CB prog 58=true:=by kernel_rfl
def jK:CB prog 31=true:=by kernel_rfl
def SL:GN prog 42 0 0=true:=by kernel_rfl
def OL:GN prog 84 3 23=true:=by kernel_rfl
def Sy:Iz prog 45 1 false=true:=by kernel_rfl
def Z6:UF prog 50=some ([(0,1),(1,1),(2,1),(3,1),(4,1)],[.int .i64 0,.int .i64 0,.int .i64 0,.int .i64 0,.slice none 0 0]):=by kernel_rfl
def VV:Na prog 45=some (50,5,56,[.int .i64 0,.int .i64 0,.int .i64 0,.int .i64 0,.slice none 0 0]):=by kernel_rfl
def jJ:CB prog 32=true:=by kernel_rfl
def YK:CB prog 16=true:=by kernel_rfl
def Z5:UF prog 60=some ([(0,1),(1,1),(2,1)],[.int .i64 0,.int .i64 0,.slice none 0 0]):=by kernel_rfl
def RW:Na prog 33=some (60,3,40,[.int .i64 0,.int .i64 0,.slice none 0 0]):=by kernel_rfl
def iQ:CB prog 60=true:=by kernel_rfl
def KN:GN prog 84 4 24=true:=by kernel_rfl
def jQ:CB prog 23=true:=by kernel_rfl
def jI:CB prog 33=true:=by kernel_rfl
def VQ:GN prog 42 3 3=true:=by kernel_rfl
def Z1:Iz prog 39 1 false=true:=by kernel_rfl
def Wy:K2 prog 39 78 4=true:=by kernel_rfl
def aI:CB prog 96=true:=by kernel_rfl
def VO:GN prog 78 1 1=true:=by kernel_rfl
def VN:GN prog 78 2 2=true:=by kernel_rfl
def iF:CB prog 84=true:=by kernel_rfl
def Zx:Iz prog 78 4 true=true:=by kernel_rfl
def eL:E8 prog 78=some [.int .i64 0,.int .i64 0,.int .i64 0,.int .i64 0]:=by kernel_rfl
def ZH:GN prog 78 0 0=true:=by kernel_rfl
def Ph:GN prog 78 3 3=true:=by kernel_rfl
def Ol:UF prog 111=some ([(0,1),(1,1),(2,1),(3,1)],[.int .i64 0,.int .i64 0,.int .i64 0,.nilFunc]):=by kernel_rfl
def iG:CB prog 83=true:=by kernel_rfl
def Lj:Na prog 107=some (111,4,32,[.int .i64 0,.int .i64 0,.int .i64 0,.nilFunc]):=by kernel_rfl
def iO:CB prog 62=true:=by kernel_rfl
def QT:CB prog 104=true:=by kernel_rfl
def cY:CB prog 106=true:=by kernel_rfl
def cZ:CB prog 105=true:=by kernel_rfl
def iA:CB prog 97=true:=by kernel_rfl
def WU:E8 prog 29=some [.slice none 0 0]:=by kernel_rfl
def gN:lP prog 29=true:=by kernel_rfl
def cW:CB prog 108=true:=by kernel_rfl
def dB:CB prog 101=true:=by kernel_rfl
def iC:CB prog 90=true:=by kernel_rfl
def aH:CB prog 98=true:=by kernel_rfl
def iE:CB prog 85=true:=by kernel_rfl
def Tv:CB prog 66=true:=by kernel_rfl
def Tt:CB prog 89=true:=by kernel_rfl
def aN:CB prog 86=true:=by kernel_rfl
def iN:CB prog 63=true:=by kernel_rfl
def cO:Na prog 139=some (107,1,24,[.slice none 0 0]):=by kernel_rfl
def Rr:K2 prog 139 107 1=true:=by kernel_rfl
def Wk:Iz prog 107 1 false=true:=by kernel_rfl
def MA:K2 prog 107 111 4=true:=by kernel_rfl
def lB:prog.underlying 3=some (.int .i64):=by kernel_rfl
def iH:CB prog 82=true:=by kernel_rfl
def iP:CB prog 61=true:=by kernel_rfl
def X2:GN prog 111 3 3=true:=by kernel_rfl
def bM:Iz prog 109 1 false=true:=by kernel_rfl
def QM:GN prog 111 0 0=true:=by kernel_rfl
def X3:GN prog 111 2 2=true:=by kernel_rfl
def cX:CB prog 107=true:=by kernel_rfl
def dC:CB prog 100=true:=by kernel_rfl
def hO:CB prog 99=true:=by kernel_rfl
def SD:GN prog 84 5 25=true:=by kernel_rfl
def X4:GN prog 111 1 1=true:=by kernel_rfl
def iD:CB prog 87=true:=by kernel_rfl
def UB:Iz prog 111 4 true=true:=by kernel_rfl
def bF:E8 prog 111=some [.int .i64 0,.int .i64 0,.int .i64 0,.nilFunc]:=by kernel_rfl
def YJ:CB prog 64=true:=by kernel_rfl
def iM:CB prog 65=true:=by kernel_rfl
def jH:CB prog 34=true:=by kernel_rfl
def YM:CB prog 11=true:=by kernel_rfl
def fB:UF prog 78=some ([(0,1),(1,1),(2,1),(3,1)],[.int .i64 0,.int .i64 0,.int .i64 0,.int .i64 0]):=by kernel_rfl
def gU:Na prog 39=some (78,4,32,[.int .i64 0,.int .i64 0,.int .i64 0,.int .i64 0]):=by kernel_rfl
def In:K2 prog 45 50 5=true:=by kernel_rfl
def JZ:GN prog 50 3 3=true:=by kernel_rfl
def Ju:GN prog 50 4 4=true:=by kernel_rfl
def JW:CB prog 18=true:=by kernel_rfl
def aT:CB prog 35=true:=by kernel_rfl
def jU:CB prog 12=true:=by kernel_rfl
def gR:cL prog 69=some [1,1,2,2]:=by kernel_rfl
def Tx:CB prog 41=true:=by kernel_rfl
def jF:CB prog 40=true:=by kernel_rfl
def jD:CB prog 43=true:=by kernel_rfl
def jE:CB prog 42=true:=by kernel_rfl
def jC:CB prog 44=true:=by kernel_rfl
def aV:CB prog 20=true:=by kernel_rfl
def lQ:CB prog 9=true:=by kernel_rfl
def jN:CB prog 28=true:=by kernel_rfl
def jV:CB prog 10=true:=by kernel_rfl
def jT:CB prog 13=true:=by kernel_rfl
end Go.Proofs.YtblcgjadhemlbaaGreat
