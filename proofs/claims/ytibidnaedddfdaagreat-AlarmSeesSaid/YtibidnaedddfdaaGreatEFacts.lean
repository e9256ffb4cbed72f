import Derived.Test.YtibidnaedddfdaaGreatEReps
import Derived.Test.YtibidnaedddfdaaGreatRows
namespace Go.Proofs.YtibidnaedddfdaaGreat
set_option linter.all false
open Go.RowKit
open Go.Proofs.Tryz
def Z3:QY prog 29=some (3,1,8,[.int .i64 0]):=by kernel_rfl
def Qh:FG prog 57=some [.string ByteArray.empty,.int .i64 0,.int .i64 0,.int .i64 0,.slice none 0 0,.slice none 0 0,.int .i64 0,.int .i64 0,.int .i64 0,.int .i64 0,.int .i64 0,.slice none 0 0]:=by kernel_rfl
def Fv:VJ prog 51=some ([(0,1),(1,1)],[.int .i64 0,.int .i64 0]):=by kernel_rfl
def Nw:QY prog 32=some (51,2,16,[.int .i64 0,.int .i64 0]):=by kernel_rfl
def VM:FG prog 36=some [.int .i64 0,.slice none 0 0,.slice none 0 0,.slice none 0 0]:=by kernel_rfl
def fU:VJ prog 42=some ([(0,1),(1,1),(2,1),(3,1),(4,1)],[.slice none 0 0,.slice none 0 0,.slice none 0 0,.slice none 0 0,.slice none 0 0]):=by kernel_rfl
def ZE:∃e,prog.underlying 32=some (.slice e):=⟨51,by kernel_rfl⟩
def qO:BG prog 48=true:=by kernel_rfl
def ZD:∃e,prog.underlying 34=some (.slice e):=⟨97,by kernel_rfl⟩
def Xn:QY prog 34=some (97,5,40,[.int .i64 0,.int .i64 0,.int .i64 0,.int .i64 0,.int .i64 0]):=by kernel_rfl
def qM:BG prog 49=true:=by kernel_rfl
def mo:prog.follows .mixedOrders=true:=by kernel_rfl
def iQ:VJ prog 106=some ([(0,11),(11,4),(15,1)],[.string ByteArray.empty,.slice none 0 0,.int .i64 0,.slice none 0 0,.slice none 0 0,.slice none 0 0,.slice none 0 0,.slice none 0 0,.slice none 0 0,.slice none 0 0,.int .i64 0,.int .i64 0,.slice none 0 0,.slice none 0 0,.slice none 0 0,.slice none 0 0]):=by kernel_rfl
def iG:FG prog 106=some [.string ByteArray.empty,.slice none 0 0,.int .i64 0,.slice none 0 0,.slice none 0 0,.slice none 0 0,.slice none 0 0,.slice none 0 0,.slice none 0 0,.slice none 0 0,.int .i64 0,.int .i64 0,.slice none 0 0,.slice none 0 0,.slice none 0 0,.slice none 0 0]:=by kernel_rfl
def EA:FG prog 51=some [.int .i64 0,.int .i64 0]:=by kernel_rfl
def iA:FG prog 171=some [.int .i64 0,.int .i64 0]:=by kernel_rfl
def V9:BG prog 45=true:=by kernel_rfl
def QB:BG prog 66=true:=by kernel_rfl
def VL:FG prog 81=some [.int .i64 0,.int .i64 0,.bool false,.bool false]:=by kernel_rfl
def Uw:BG prog 145=true:=by kernel_rfl
def hO:FG prog 173=some [.int .i64 0,.int .i64 0]:=by kernel_rfl
def XD:VJ prog 81=some ([(0,1),(1,1),(2,1),(3,1)],[.int .i64 0,.int .i64 0,.bool false,.bool false]):=by kernel_rfl
def mB:BG prog 100=true:=by kernel_rfl
def eE:pN prog 81 1 1 3 1 false=true:=by kernel_rfl
def Tw:FG prog 97=some [.int .i64 0,.int .i64 0,.int .i64 0,.int .i64 0,.int .i64 0]:=by kernel_rfl
def MW:BG prog 106=true:=by kernel_rfl
def Q7:BG prog 60=true:=by kernel_rfl
def lD:BG prog 147=true:=by kernel_rfl
def eG:pN prog 81 0 0 3 1 false=true:=by kernel_rfl
def aY:BG prog 146=true:=by kernel_rfl
def Nb:FG prog 102=some [.string ByteArray.empty,.int .i64 0,.int .i64 0,.int .i64 0,.slice none 0 0,.slice none 0 0,.slice none 0 0,.int .i64 0,.int .i64 0,.int .i64 0,.int .i64 0,.int .i64 0,.int .i64 0,.int .i64 0,.int .i64 0,.int .i64 0,.int .i64 0,.int .i64 0]:=by kernel_rfl
def mA:BG prog 101=true:=by kernel_rfl
def qL:BG prog 50=true:=by kernel_rfl
def TS:BG prog 13=true:=by kernel_rfl
def Wp:BG prog 102=true:=by kernel_rfl
def W4:FG prog 93=some [.int .i64 0,.int .i64 0,.int .i64 0,.int .i64 0]:=by kernel_rfl
def Nv:QY prog 33=some (93,4,32,[.int .i64 0,.int .i64 0,.int .i64 0,.int .i64 0]):=by kernel_rfl
def Wo:BG prog 103=true:=by kernel_rfl
def nM:FG prog 4=some [.bool false]:=by kernel_rfl
def lC:BG prog 148=true:=by kernel_rfl
def aG:BG prog 73=true:=by kernel_rfl
def kT:BG prog 172=true:=by kernel_rfl
def lB:BG prog 149=true:=by kernel_rfl
def eD:pN prog 81 3 3 4 1 false=true:=by kernel_rfl
def aI:BG prog 54=true:=by kernel_rfl
def lZ:BG prog 104=true:=by kernel_rfl
def qK:BG prog 51=true:=by kernel_rfl
def gY:FG prog 184=some [.int .i64 0,.int .i64 0,.int .i64 0,.int .i64 0]:=by kernel_rfl
def Sk:VJ prog 181=some ([(0,1),(1,1),(2,1),(3,1)],[.int .i64 0,.int .i64 0,.int .i64 0,.nilFunc]):=by kernel_rfl
def lY:BG prog 108=true:=by kernel_rfl
def Ng:QY prog 110=some (181,4,32,[.int .i64 0,.int .i64 0,.int .i64 0,.nilFunc]):=by kernel_rfl
def QP:prog.underlying 3=some (.int .i64):=by kernel_rfl
def Nc:prog.underlying 213=some (.int .u64):=by kernel_rfl
def bB:BG prog 142=true:=by kernel_rfl
def nV:prog.underlying 5=some (.int .u8):=by kernel_rfl
def kP:BG prog 184=true:=by kernel_rfl
def kU:BG prog 171=true:=by kernel_rfl
def Sg:prog.underlying 230=some (.int .u64):=by kernel_rfl
def bA:BG prog 143=true:=by kernel_rfl
def TR:BG prog 152=true:=by kernel_rfl
def TQ:BG prog 173=true:=by kernel_rfl
def VK:FG prog 90=some [.int .i64 0,.int .i64 0]:=by kernel_rfl
def Q6:BG prog 89=true:=by kernel_rfl
def kQ:BG prog 183=true:=by kernel_rfl
def aR:BG prog 165=true:=by kernel_rfl
def Wm:BG prog 170=true:=by kernel_rfl
def kR:BG prog 175=true:=by kernel_rfl
def kS:BG prog 174=true:=by kernel_rfl
def aX:BG prog 150=true:=by kernel_rfl
def lW:BG prog 110=true:=by kernel_rfl
def aO:BG prog 176=true:=by kernel_rfl
def aW:BG prog 151=true:=by kernel_rfl
def bH:BG prog 113=true:=by kernel_rfl
def bI:BG prog 112=true:=by kernel_rfl
def lT:BG prog 115=true:=by kernel_rfl
def lX:BG prog 109=true:=by kernel_rfl
def lV:BG prog 111=true:=by kernel_rfl
def lU:BG prog 114=true:=by kernel_rfl
def bG:BG prog 117=true:=by kernel_rfl
def lS:BG prog 116=true:=by kernel_rfl
def cU:FG prog 3=some [.int .i64 0]:=by kernel_rfl
def XC:VJ prog 93=some ([(0,1),(1,1),(2,2)],[.int .i64 0,.int .i64 0,.int .i64 0,.int .i64 0]):=by kernel_rfl
def aZ:BG prog 144=true:=by kernel_rfl
def gM:BG prog 99=true:=by kernel_rfl
def pS:BG prog 98=true:=by kernel_rfl
def gQ:BG prog 46=true:=by kernel_rfl
def lO:BG prog 124=true:=by kernel_rfl
def lN:BG prog 125=true:=by kernel_rfl
def qE:BG prog 67=true:=by kernel_rfl
def gZ:FG prog 181=some [.int .i64 0,.int .i64 0,.int .i64 0,.nilFunc]:=by kernel_rfl
def bL:BG prog 105=true:=by kernel_rfl
def bK:BG prog 107=true:=by kernel_rfl
def qI:BG prog 53=true:=by kernel_rfl
def qJ:BG prog 52=true:=by kernel_rfl
def rH:BG prog 12=true:=by kernel_rfl
def Vx:gI prog 51=some [1,1]:=by kernel_rfl
def bD:BG prog 14=true:=by kernel_rfl
def qP:BG prog 47=true:=by kernel_rfl
def sL:∀w,(zeroValue 4).run prog w= .ok (.bool false) w:=λw=>by kernel_rfl
def rI:BG prog 11=true:=by kernel_rfl
def KD:BG prog 85=true:=by kernel_rfl
def Lv:BG prog 86=true:=by kernel_rfl
def iD:FG prog 154=some [.map none]:=by kernel_rfl
def iN:VJ prog 210=some ([(0,1),(1,1)],[.string ByteArray.empty,.string ByteArray.empty]):=by kernel_rfl
def gW:FG prog 210=some [.string ByteArray.empty,.string ByteArray.empty]:=by kernel_rfl
def lE:BG prog 140=true:=by kernel_rfl
def ZI:prog.underlying 154=some (.map 210 4):=by kernel_rfl
def kE:gI prog 210=some [3,3]:=by kernel_rfl
def Xd:Pb prog 210 (λk:AG=>Value.agg (AG.v k).toArray):=Pb.agg (f:=AG.v) underlying210 kE (λk=>rfl) (λa b=>rfl) (λk e w=>by kernel_rfl) (λa b h=>by
 simp only[AG.v,R6,Y4,uL,U0,uY,beq_iff_eq] at h;simp [AG.v,h]) (λa=>by simp [Instr.sameBits,AG.v,U0.2])
def pW:BG prog 88=true:=by kernel_rfl
def TO:BG prog 87=true:=by kernel_rfl
def Sf:FG prog 114=some [.string ByteArray.empty,.int .i64 0,.int .i64 0,.int .i64 0,.int .i64 0,.int .i64 0,.int .i64 0]:=by kernel_rfl
def Y9:FG prog 158=some [.string ByteArray.empty,.int .i64 0]:=by kernel_rfl
def QL:FG prog 147=some [.string ByteArray.empty,.int .i64 0,.int .i64 0,.int .i64 0,.int .i64 0]:=by kernel_rfl
def Y8:FG prog 160=some [.string ByteArray.empty,.int .i64 0,.int .i64 0,.int .i64 0,.int .i64 0,.int .i64 0,.int .i64 0]:=by kernel_rfl
def TN:BG prog 92=true:=by kernel_rfl
def aF:BG prog 90=true:=by kernel_rfl
def gO:BG prog 91=true:=by kernel_rfl
def iC:FG prog 164=some [.int .i64 0,.int .i64 0]:=by kernel_rfl
def bC:BG prog 141=true:=by kernel_rfl
def pV:BG prog 93=true:=by kernel_rfl
def pU:BG prog 94=true:=by kernel_rfl
def gN:BG prog 95=true:=by kernel_rfl
def UJ:BG prog 96=true:=by kernel_rfl
def kH:QY prog 217=some (54,1,24,[.slice none 0 0]):=by kernel_rfl
def pT:BG prog 97=true:=by kernel_rfl
def mG:sH prog 167=some ([(0,1),(1,1),(2,1)],[.int .i64 0,.int .i64 0,.int .i64 0]):=by kernel_rfl
def iB:FG prog 167=some [.int .i64 0,.int .i64 0,.int .i64 0]:=by kernel_rfl
def mF:tN prog 167 3 1=true:=by kernel_rfl
def qY:BG prog 36=true:=by kernel_rfl
def qX:BG prog 37=true:=by kernel_rfl
def qW:BG prog 38=true:=by kernel_rfl
def qV:BG prog 39=true:=by kernel_rfl
def qU:BG prog 40=true:=by kernel_rfl
def qT:BG prog 41=true:=by kernel_rfl
def qS:BG prog 42=true:=by kernel_rfl
def qR:BG prog 43=true:=by kernel_rfl
def qQ:BG prog 44=true:=by kernel_rfl
def rJ:BG prog 10=true:=by kernel_rfl
def aH:BG prog 59=true:=by kernel_rfl
def Nh:BG prog 121=true:=by kernel_rfl
def R7:BG prog 63=true:=by kernel_rfl
def sS:prog.underlying 4=some .bool:=by kernel_rfl
def UK:BG prog 69=true:=by kernel_rfl
def Wn:BG prog 126=true:=by kernel_rfl
def Uy:BG prog 127=true:=by kernel_rfl
def gP:BG prog 71=true:=by kernel_rfl
def iO:VJ prog 141=some ([(0,11),(11,4),(15,1)],[.string ByteArray.empty,.slice none 0 0,.int .i64 0,.slice none 0 0,.slice none 0 0,.slice none 0 0,.slice none 0 0,.slice none 0 0,.slice none 0 0,.slice none 0 0,.int .i64 0,.int .i64 0,.slice none 0 0,.slice none 0 0,.slice none 0 0,.slice none 0 0]):=by kernel_rfl
def Uv:BG prog 157=true:=by kernel_rfl
def lM:BG prog 128=true:=by kernel_rfl
def aV:BG prog 158=true:=by kernel_rfl
def lL:BG prog 129=true:=by kernel_rfl
def qD:BG prog 78=true:=by kernel_rfl
def kZ:BG prog 159=true:=by kernel_rfl
def lK:BG prog 130=true:=by kernel_rfl
def qC:BG prog 79=true:=by kernel_rfl
def kY:BG prog 160=true:=by kernel_rfl
def UU:VJ prog 204=some ([(0,1),(1,1),(2,1),(3,1)],[.int .i64 0,.int .i64 0,.int .i64 0,.int .i64 0]):=by kernel_rfl
def PN:QY prog 199=some (204,4,32,[.int .i64 0,.int .i64 0,.int .i64 0,.int .i64 0]):=by kernel_rfl
def lJ:BG prog 131=true:=by kernel_rfl
def Uu:BG prog 178=true:=by kernel_rfl
def aT:BG prog 162=true:=by kernel_rfl
def TP:BG prog 186=true:=by kernel_rfl
def aL:BG prog 181=true:=by kernel_rfl
def aQ:BG prog 168=true:=by kernel_rfl
def kO:BG prog 188=true:=by kernel_rfl
def aK:BG prog 182=true:=by kernel_rfl
def aN:BG prog 179=true:=by kernel_rfl
def kX:BG prog 163=true:=by kernel_rfl
def aJ:BG prog 187=true:=by kernel_rfl
def aM:BG prog 180=true:=by kernel_rfl
def aS:BG prog 164=true:=by kernel_rfl
def Ux:BG prog 134=true:=by kernel_rfl
def Rj:BG prog 133=true:=by kernel_rfl
def aU:BG prog 161=true:=by kernel_rfl
def bF:BG prog 132=true:=by kernel_rfl
def qA:BG prog 80=true:=by kernel_rfl
def rC:BG prog 28=true:=by kernel_rfl
def iP:VJ prog 114=some ([(0,1),(1,1),(2,1),(3,1),(4,1),(5,1),(6,1)],[.string ByteArray.empty,.int .i64 0,.int .i64 0,.int .i64 0,.int .i64 0,.int .i64 0,.int .i64 0]):=by kernel_rfl
def O4:VJ prog 64=some ([(0,1),(1,1)],[.int .i64 0,.bool false]):=by kernel_rfl
def kI:QY prog 117=some (64,2,16,[.int .i64 0,.bool false]):=by kernel_rfl
def Wj:QY prog 115=some (119,3,24,[.int .i64 0,.int .i64 0,.int .i64 0]):=by kernel_rfl
def Sm:VJ prog 119=some ([(0,1),(1,1),(2,1)],[.int .i64 0,.int .i64 0,.int .i64 0]):=by kernel_rfl
def ZA:FG prog 119=some [.int .i64 0,.int .i64 0,.int .i64 0]:=by kernel_rfl
def lA:BG prog 153=true:=by kernel_rfl
def Y7:FG prog 64=some [.int .i64 0,.bool false]:=by kernel_rfl
def lR:BG prog 118=true:=by kernel_rfl
def qH:BG prog 55=true:=by kernel_rfl
def rG:BG prog 15=true:=by kernel_rfl
def rF:BG prog 16=true:=by kernel_rfl
def qG:BG prog 56=true:=by kernel_rfl
def rE:BG prog 17=true:=by kernel_rfl
def ZO:VJ prog 123=some ([(0,1),(1,1),(2,1)],[.int .i64 0,.int .i64 0,.slice none 0 0]):=by kernel_rfl
def gJ:QY prog 59=some (123,3,40,[.int .i64 0,.int .i64 0,.slice none 0 0]):=by kernel_rfl
def fQ:FG prog 42=some [.slice none 0 0,.slice none 0 0,.slice none 0 0,.slice none 0 0,.slice none 0 0]:=by kernel_rfl
def lP:BG prog 120=true:=by kernel_rfl
def iF:FG prog 123=some [.int .i64 0,.int .i64 0,.slice none 0 0]:=by kernel_rfl
def qF:BG prog 57=true:=by kernel_rfl
def lQ:BG prog 119=true:=by kernel_rfl
def lI:BG prog 135=true:=by kernel_rfl
def pZ:BG prog 81=true:=by kernel_rfl
def pP:QY prog 43=some (4,1,1,[.bool false]):=by kernel_rfl
def ZN:VJ prog 147=some ([(0,1),(1,1),(2,1),(3,1),(4,1)],[.string ByteArray.empty,.int .i64 0,.int .i64 0,.int .i64 0,.int .i64 0]):=by kernel_rfl
def lH:BG prog 136=true:=by kernel_rfl
def kW:BG prog 166=true:=by kernel_rfl
def bE:BG prog 137=true:=by kernel_rfl
def lG:BG prog 138=true:=by kernel_rfl
def iE:FG prog 145=some [.int .i64 0,.int .i64 0,.int .i64 0,.int .i64 0]:=by kernel_rfl
def pY:BG prog 82=true:=by kernel_rfl
def kV:BG prog 167=true:=by kernel_rfl
def aP:BG prog 169=true:=by kernel_rfl
def lF:BG prog 139=true:=by kernel_rfl
def pX:BG prog 83=true:=by kernel_rfl
def rD:BG prog 18=true:=by kernel_rfl
def rB:BG prog 32=true:=by kernel_rfl
def pM:gI prog 64=some [1,2]:=by kernel_rfl
def rA:BG prog 33=true:=by kernel_rfl
def qZ:BG prog 34=true:=by kernel_rfl
def sR:prog.underlying 3=some (.int .i64):=by kernel_rfl
end Go.Proofs.YtibidnaedddfdaaGreat
