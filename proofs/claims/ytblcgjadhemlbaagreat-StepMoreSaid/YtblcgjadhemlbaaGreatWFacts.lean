import Derived.Test.YtblcgjadhemlbaaGreatWReps
import Derived.Test.YtblcgjadhemlbaaGreatRows
namespace Go.Proofs.YtblcgjadhemlbaaGreat
set_option linter.all false
open Go.RowKit
open Go.Proofs.Tryz
def cK:FK prog 31=some [.string ByteArray.empty,.slice none 0 0,.int .i64 0,.slice none 0 0,.slice none 0 0,.slice none 0 0,.slice none 0 0,.slice none 0 0,.slice none 0 0,.slice none 0 0,.int .i64 0]:=by kernel_rfl
def jS:U4 prog 98=some ([(0,1),(1,1)],[.int .i64 0,.int .i64 0]):=by kernel_rfl
def lP:N3 prog 53=some (98,2,16,[.int .i64 0,.int .i64 0]):=by kernel_rfl
def GM:N3 prog 29=some (3,1,8,[.int .i64 0]):=by kernel_rfl
def jV:U4 prog 56=some ([(0,1),(1,1),(2,1),(3,1),(4,1),(5,1),(6,1),(7,1),(8,1),(9,1),(10,1),(11,1)],[.string ByteArray.empty,.int .i64 0,.int .i64 0,.int .i64 0,.slice none 0 0,.slice none 0 0,.int .i64 0,.int .i64 0,.int .i64 0,.int .i64 0,.int .i64 0,.slice none 0 0]):=by kernel_rfl
def Pb:FK prog 56=some [.string ByteArray.empty,.int .i64 0,.int .i64 0,.int .i64 0,.slice none 0 0,.slice none 0 0,.int .i64 0,.int .i64 0,.int .i64 0,.int .i64 0,.int .i64 0,.slice none 0 0]:=by kernel_rfl
def Kt:JF prog 56 12 true=true:=by kernel_rfl
def lS:N3 prog 22=some (9,1,16,[.string ByteArray.empty]):=by kernel_rfl
def lR:N3 prog 23=some (56,12,152,[.string ByteArray.empty,.int .i64 0,.int .i64 0,.int .i64 0,.slice none 0 0,.slice none 0 0,.int .i64 0,.int .i64 0,.int .i64 0,.int .i64 0,.int .i64 0,.slice none 0 0]):=by kernel_rfl
def jX:U4 prog 31=some ([(0,1),(1,1),(2,1),(3,1),(4,1),(5,1),(6,1),(7,1),(8,1),(9,1),(10,1)],[.string ByteArray.empty,.slice none 0 0,.int .i64 0,.slice none 0 0,.slice none 0 0,.slice none 0 0,.slice none 0 0,.slice none 0 0,.slice none 0 0,.slice none 0 0,.int .i64 0]):=by kernel_rfl
def H2:JF prog 31 11 true=true:=by kernel_rfl
def nM:CC prog 26=true:=by kernel_rfl
def N7:FK prog 36=some [.int .i64 0,.slice none 0 0,.slice none 0 0,.slice none 0 0,.slice none 0 0,.slice none 0 0,.slice none 0 0]:=by kernel_rfl
def mo:prog.follows .mixedOrders=true:=by kernel_rfl
def D1:Gf prog 31 3 3=true:=by kernel_rfl
def G7:JF prog 23 1 false=true:=by kernel_rfl
def GL:LJ prog 23 56 12=true:=by kernel_rfl
def Hn:Gf prog 31 4 4=true:=by kernel_rfl
def KF:JF prog 24 1 false=true:=by kernel_rfl
def Ie:LJ prog 24 67 18=true:=by kernel_rfl
def Ib:Gf prog 31 1 1=true:=by kernel_rfl
def LA:JF prog 22 1 false=true:=by kernel_rfl
def Ku:LJ prog 22 9 1=true:=by kernel_rfl
def jW:U4 prog 36=some ([(0,1),(1,1),(2,1),(3,1),(4,1),(5,1),(6,1)],[.int .i64 0,.slice none 0 0,.slice none 0 0,.slice none 0 0,.slice none 0 0,.slice none 0 0,.slice none 0 0]):=by kernel_rfl
def Ud:N3 prog 32=some (29,1,24,[.slice none 0 0]):=by kernel_rfl
def ZQ:N3 prog 34=some (69,4,24,[.int .i64 0,.int .i64 0,.bool false,.bool false]):=by kernel_rfl
def G6:JF prog 36 7 true=true:=by kernel_rfl
def Xv:∃e,prog.underlying 29=some (.slice e):=⟨3,by kernel_rfl⟩
def EF:Gf prog 36 1 1=true:=by kernel_rfl
def HO:JF prog 32 1 false=true:=by kernel_rfl
def TF:Gf prog 56 5 5=true:=by kernel_rfl
def CH:JF prog 29 1 false=true:=by kernel_rfl
def Q8:CC prog 39=true:=by kernel_rfl
def Fl:LJ prog 32 29 1=true:=by kernel_rfl
def nR:CC prog 15=true:=by kernel_rfl
def TJ:Gf prog 31 0 0=true:=by kernel_rfl
def RQ:JF prog 9 1 false=true:=by kernel_rfl
def RP:prog.underlying 9=some .string:=by kernel_rfl
def Ip:CC prog 68=true:=by kernel_rfl
def TI:Gf prog 31 2 2=true:=by kernel_rfl
def BA:JF prog 3 1 false=true:=by kernel_rfl
def O2:Gf prog 31 5 5=true:=by kernel_rfl
def To:JF prog 25 1 false=true:=by kernel_rfl
def Qh:LJ prog 25 124 7=true:=by kernel_rfl
def TH:Gf prog 31 6 6=true:=by kernel_rfl
def Xz:JF prog 26 1 false=true:=by kernel_rfl
def T3:LJ prog 26 128 5=true:=by kernel_rfl
def TG:Gf prog 31 7 7=true:=by kernel_rfl
def Xy:JF prog 27 1 false=true:=by kernel_rfl
def T1:LJ prog 27 130 7=true:=by kernel_rfl
def QS:Gf prog 31 8 8=true:=by kernel_rfl
def Vr:JF prog 28 1 false=true:=by kernel_rfl
def Rr:LJ prog 28 126 2=true:=by kernel_rfl
def WZ:Gf prog 31 9 9=true:=by kernel_rfl
def CA:LJ prog 29 3 1=true:=by kernel_rfl
def Y1:Gf prog 31 10 10=true:=by kernel_rfl
def Ka:CC prog 69=true:=by kernel_rfl
def eK:FK prog 120=some [.map none]:=by kernel_rfl
def X1:JF prog 120 1 false=true:=by kernel_rfl
def oP:FK prog 4=some [.bool false]:=by kernel_rfl
def Pr:JF prog 4 1 false=true:=by kernel_rfl
def eV:U4 prog 151=some ([(0,1),(1,1)],[.string ByteArray.empty,.string ByteArray.empty]):=by kernel_rfl
def eH:FK prog 151=some [.string ByteArray.empty,.string ByteArray.empty]:=by kernel_rfl
def Uz:JF prog 151 2 true=true:=by kernel_rfl
def lZ:CC prog 92=true:=by kernel_rfl
def Xx:prog.underlying 120=some (.map 151 4):=by kernel_rfl
def fU:fV prog 151=some [3,3]:=by kernel_rfl
def WK:Nb prog 151 (λk:AQ=>Value.agg (AQ.v k).toArray):=Nb.agg (f:=AQ.v) underlying151 fU (λk=>rfl) (λa b=>rfl) (λk e w=>by kernel_rfl) (λa b c=>by
 simp only[AQ.v,ZP,bE,qT,TO,rJ,beq_iff_eq] at c
 simp [AQ.v,c]) (λa=>by simp [Instr.sameBits,AQ.v,TO.2])
def oO:∀w,(zeroValue 4).run prog w= .ok (.bool false) w:=λw=>by kernel_rfl
def mJ:CC prog 71=true:=by kernel_rfl
def Q7:CC prog 70=true:=by kernel_rfl
def bD:Gf prog 56 0 0=true:=by kernel_rfl
def IM:JF prog 67 18 true=true:=by kernel_rfl
def OX:FK prog 67=some [.string ByteArray.empty,.int .i64 0,.int .i64 0,.int .i64 0,.slice none 0 0,.slice none 0 0,.slice none 0 0,.int .i64 0,.int .i64 0,.int .i64 0,.int .i64 0,.int .i64 0,.int .i64 0,.int .i64 0,.int .i64 0,.int .i64 0,.int .i64 0,.int .i64 0]:=by kernel_rfl
def bA:Gf prog 67 0 0=true:=by kernel_rfl
def SZ:JF prog 124 7 true=true:=by kernel_rfl
def Xr:FK prog 124=some [.string ByteArray.empty,.int .i64 0,.int .i64 0,.int .i64 0,.int .i64 0,.int .i64 0,.int .i64 0]:=by kernel_rfl
def ZJ:Gf prog 124 0 0=true:=by kernel_rfl
def SY:JF prog 126 2 true=true:=by kernel_rfl
def Xq:FK prog 126=some [.string ByteArray.empty,.int .i64 0]:=by kernel_rfl
def ZC:Gf prog 126 0 0=true:=by kernel_rfl
def SW:JF prog 128 5 true=true:=by kernel_rfl
def Xp:FK prog 128=some [.string ByteArray.empty,.int .i64 0,.int .i64 0,.int .i64 0,.int .i64 0]:=by kernel_rfl
def Y9:Gf prog 128 0 0=true:=by kernel_rfl
def SV:JF prog 130 7 true=true:=by kernel_rfl
def Xo:FK prog 130=some [.string ByteArray.empty,.int .i64 0,.int .i64 0,.int .i64 0,.int .i64 0,.int .i64 0,.int .i64 0]:=by kernel_rfl
def Y5:Gf prog 130 0 0=true:=by kernel_rfl
def I3:LJ prog 53 98 2=true:=by kernel_rfl
def Pc:JF prog 98 2 true=true:=by kernel_rfl
def Vl:FK prog 98=some [.int .i64 0,.int .i64 0]:=by kernel_rfl
def Jw:Gf prog 98 0 0=true:=by kernel_rfl
def JG:Gf prog 98 1 1=true:=by kernel_rfl
def Q5:CC prog 75=true:=by kernel_rfl
def bC:Gf prog 56 1 1=true:=by kernel_rfl
def Mf:Gf prog 56 2 2=true:=by kernel_rfl
def TD:Gf prog 56 9 9=true:=by kernel_rfl
def WV:Gf prog 56 3 3=true:=by kernel_rfl
def Y0:Gf prog 56 10 10=true:=by kernel_rfl
def bB:Gf prog 56 4 4=true:=by kernel_rfl
def JK:JF prog 53 1 false=true:=by kernel_rfl
def Q6:CC prog 72=true:=by kernel_rfl
def TE:Gf prog 56 6 6=true:=by kernel_rfl
def Lx:Gf prog 56 7 7=true:=by kernel_rfl
def ZY:CC prog 73=true:=by kernel_rfl
def QQ:Gf prog 56 8 8=true:=by kernel_rfl
def dT:CC prog 74=true:=by kernel_rfl
def Yz:Gf prog 56 11 11=true:=by kernel_rfl
def jQ:JF prog 54 1 false=true:=by kernel_rfl
def dA:LJ prog 54 134 2=true:=by kernel_rfl
def X0:JF prog 134 2 true=true:=by kernel_rfl
def eJ:FK prog 134=some [.int .i64 0,.int .i64 0]:=by kernel_rfl
def Qy:Gf prog 134 0 0=true:=by kernel_rfl
def Y2:Gf prog 134 1 1=true:=by kernel_rfl
def HA:Gf prog 67 1 1=true:=by kernel_rfl
def PI:prog.underlying 3=some (.int .i64):=by kernel_rfl
def Uy:prog.underlying 164=some (.int .u64):=by kernel_rfl
def gH:CC prog 111=true:=by kernel_rfl
def gI:CC prog 110=true:=by kernel_rfl
def L4:prog.underlying 154=some (.int .u64):=by kernel_rfl
def dN:CC prog 94=true:=by kernel_rfl
def jO:prog.underlying 5=some (.int .u8):=by kernel_rfl
def gG:CC prog 112=true:=by kernel_rfl
def gO:CC prog 103=true:=by kernel_rfl
def dM:CC prog 95=true:=by kernel_rfl
def Uj:CC prog 88=true:=by kernel_rfl
def VV:CC prog 102=true:=by kernel_rfl
def Nr:Gf prog 67 4 4=true:=by kernel_rfl
def Lu:Gf prog 67 5 5=true:=by kernel_rfl
def QP:Gf prog 65 0 0=true:=by kernel_rfl
def QO:Gf prog 65 1 1=true:=by kernel_rfl
def dO:CC prog 93=true:=by kernel_rfl
def KL:Gf prog 67 6 7=true:=by kernel_rfl
def Ow:Gf prog 67 7 8=true:=by kernel_rfl
def TC:Gf prog 67 8 9=true:=by kernel_rfl
def Lf:Gf prog 67 14 15=true:=by kernel_rfl
def Kw:Gf prog 67 15 16=true:=by kernel_rfl
def Ia:Gf prog 67 3 3=true:=by kernel_rfl
def TB:Gf prog 67 9 10=true:=by kernel_rfl
def JN:Gf prog 67 10 11=true:=by kernel_rfl
def KM:Gf prog 67 11 12=true:=by kernel_rfl
def Oz:Gf prog 67 12 13=true:=by kernel_rfl
def Oy:Gf prog 67 13 14=true:=by kernel_rfl
def Jb:Gf prog 67 2 2=true:=by kernel_rfl
def Ox:Gf prog 67 16 17=true:=by kernel_rfl
def mI:CC prog 76=true:=by kernel_rfl
def mH:CC prog 77=true:=by kernel_rfl
def dS:CC prog 78=true:=by kernel_rfl
def SJ:CC prog 79=true:=by kernel_rfl
def YH:LJ prog 158 53 1=true:=by kernel_rfl
def fX:N3 prog 158=some (53,1,24,[.slice none 0 0]):=by kernel_rfl
def mG:CC prog 80=true:=by kernel_rfl
def ZI:Gf prog 124 1 1=true:=by kernel_rfl
def ZH:Gf prog 124 2 2=true:=by kernel_rfl
def ZG:Gf prog 124 3 3=true:=by kernel_rfl
def ZF:Gf prog 124 4 4=true:=by kernel_rfl
def ZE:Gf prog 124 5 5=true:=by kernel_rfl
def ZD:Gf prog 124 6 6=true:=by kernel_rfl
def ZA:Gf prog 126 1 1=true:=by kernel_rfl
def UY:Gf prog 128 1 1=true:=by kernel_rfl
def Y7:Gf prog 128 3 3=true:=by kernel_rfl
def Y6:Gf prog 128 4 4=true:=by kernel_rfl
def gZ:oJ prog 137=some ([(0,1),(1,1),(2,1)],[.int .i64 0,.int .i64 0,.int .i64 0]):=by kernel_rfl
def eI:FK prog 137=some [.int .i64 0,.int .i64 0,.int .i64 0]:=by kernel_rfl
def eR:JF prog 137 3 true=true:=by kernel_rfl
def Y8:Gf prog 128 2 2=true:=by kernel_rfl
def gW:pL prog 137 3 1=true:=by kernel_rfl
def UW:Gf prog 130 1 1=true:=by kernel_rfl
def UV:Gf prog 130 2 2=true:=by kernel_rfl
def Y4:Gf prog 130 3 3=true:=by kernel_rfl
def Y3:Gf prog 130 4 4=true:=by kernel_rfl
def UU:Gf prog 130 6 6=true:=by kernel_rfl
def Qz:Gf prog 130 5 5=true:=by kernel_rfl
def mZ:CC prog 47=true:=by kernel_rfl
def mY:CC prog 48=true:=by kernel_rfl
def mX:CC prog 49=true:=by kernel_rfl
def mW:CC prog 50=true:=by kernel_rfl
def mV:CC prog 51=true:=by kernel_rfl
def mU:CC prog 52=true:=by kernel_rfl
def mT:CC prog 53=true:=by kernel_rfl
def mS:CC prog 54=true:=by kernel_rfl
def mR:CC prog 55=true:=by kernel_rfl
def Jc:Gf prog 36 0 0=true:=by kernel_rfl
def Kn:Gf prog 36 2 2=true:=by kernel_rfl
def Iv:Gf prog 36 4 4=true:=by kernel_rfl
def LW:JF prog 34 1 false=true:=by kernel_rfl
def LB:LJ prog 34 69 4=true:=by kernel_rfl
def Kl:Gf prog 36 5 5=true:=by kernel_rfl
def KO:Gf prog 36 6 6=true:=by kernel_rfl
def H1:JF prog 69 4 true=true:=by kernel_rfl
def Tj:FK prog 69=some [.int .i64 0,.int .i64 0,.bool false,.bool false]:=by kernel_rfl
def Nq:Gf prog 69 0 0=true:=by kernel_rfl
def QN:Gf prog 69 1 1=true:=by kernel_rfl
def Ov:Gf prog 69 3 3=true:=by kernel_rfl
def dP:CC prog 91=true:=by kernel_rfl
def SK:CC prog 36=true:=by kernel_rfl
def dU:CC prog 67=true:=by kernel_rfl
def OC:CC prog 59=true:=by kernel_rfl
def Km:Gf prog 36 3 3=true:=by kernel_rfl
def MD:JF prog 33 1 false=true:=by kernel_rfl
def KZ:LJ prog 33 60 3=true:=by kernel_rfl
def Lq:JF prog 60 3 true=true:=by kernel_rfl
def Ri:FK prog 60=some [.int .i64 0,.int .i64 0,.slice none 0 0]:=by kernel_rfl
def O0:Gf prog 60 0 0=true:=by kernel_rfl
def Lw:Gf prog 60 1 1=true:=by kernel_rfl
def Pn:CC prog 57=true:=by kernel_rfl
def Lv:Gf prog 60 2 2=true:=by kernel_rfl
def nE:CC prog 37=true:=by kernel_rfl
def dV:CC prog 38=true:=by kernel_rfl
def dX:CC prog 27=true:=by kernel_rfl
def Wj:CC prog 14=true:=by kernel_rfl
def cY:U4 prog 42=some ([(0,1),(1,1),(2,1),(3,1),(4,1)],[.slice none 0 0,.slice none 0 0,.slice none 0 0,.slice none 0 0,.slice none 0 0]):=by kernel_rfl
def Xu:∃e,prog.underlying 34=some (.slice e):=⟨69,by kernel_rfl⟩
def mQ:CC prog 56=true:=by kernel_rfl
def Tn:JF prog 42 5 true=true:=by kernel_rfl
def nK:CC prog 29=true:=by kernel_rfl
def jT:U4 prog 84=some ([(0,11),(11,5),(16,7),(23,1),(24,1),(25,1)],[.string ByteArray.empty,.slice none 0 0,.int .i64 0,.slice none 0 0,.slice none 0 0,.slice none 0 0,.slice none 0 0,.slice none 0 0,.slice none 0 0,.slice none 0 0,.int .i64 0,.slice none 0 0,.slice none 0 0,.slice none 0 0,.slice none 0 0,.slice none 0 0,.int .i64 0,.slice none 0 0,.slice none 0 0,.slice none 0 0,.slice none 0 0,.slice none 0 0,.slice none 0 0,.slice none 0 0,.slice none 0 0,.slice none 0 0]):=by kernel_rfl
def jE:FK prog 84=some [.string ByteArray.empty,.slice none 0 0,.int .i64 0,.slice none 0 0,.slice none 0 0,.slice none 0 0,.slice none 0 0,.slice none 0 0,.slice none 0 0,.slice none 0 0,.int .i64 0,.slice none 0 0,.slice none 0 0,.slice none 0 0,.slice none 0 0,.slice none 0 0,.int .i64 0,.slice none 0 0,.slice none 0 0,.slice none 0 0,.slice none 0 0,.slice none 0 0,.slice none 0 0,.slice none 0 0,.slice none 0 0,.slice none 0 0]:=by kernel_rfl
def jP:JF prog 84 26 true=true:=by kernel_rfl
def Np:Gf prog 84 1 11=true:=by kernel_rfl
def WY:Gf prog 42 1 1=true:=by kernel_rfl
def cS:JF prog 37 1 false=true:=by kernel_rfl
def YG:LJ prog 37 71 2=true:=by kernel_rfl
def TA:Gf prog 69 2 2=true:=by kernel_rfl
def cP:JF prog 71 2 true=true:=by kernel_rfl
def jH:FK prog 71=some [.int .i64 0,.int .i64 0]:=by kernel_rfl
def QM:Gf prog 71 1 1=true:=by kernel_rfl
def HQ:Gf prog 84 0 0=true:=by kernel_rfl
def DZ:Gf prog 84 2 16=true:=by kernel_rfl
def aZ:Gf prog 71 0 0=true:=by kernel_rfl
def nQ:CC prog 21=true:=by kernel_rfl
def WX:Gf prog 42 2 2=true:=by kernel_rfl
def cR:JF prog 38 1 false=true:=by kernel_rfl
def YF:LJ prog 38 74 2=true:=by kernel_rfl
def Wh:CC prog 45=true:=by kernel_rfl
def cO:JF prog 74 2 true=true:=by kernel_rfl
def jG:FK prog 74=some [.int .i64 0,.int .i64 0]:=by kernel_rfl
def QL:Gf prog 74 0 0=true:=by kernel_rfl
def aY:Gf prog 74 1 1=true:=by kernel_rfl
def nP:CC prog 22=true:=by kernel_rfl
def Ul:CC prog 46=true:=by kernel_rfl
def nN:CC prog 24=true:=by kernel_rfl
def nJ:CC prog 30=true:=by kernel_rfl
def WW:Gf prog 42 4 4=true:=by kernel_rfl
def cQ:JF prog 40 1 false=true:=by kernel_rfl
def YE:LJ prog 40 103 4=true:=by kernel_rfl
def dR:CC prog 81=true:=by kernel_rfl
def X3:JF prog 103 4 true=true:=by kernel_rfl
def eM:FK prog 103=some [.int .i64 0,.int .i64 0,.int .i64 0,.int .i64 0]:=by kernel_rfl
def Q3:Gf prog 103 0 0=true:=by kernel_rfl
def Ua:Gf prog 103 1 1=true:=by kernel_rfl
def UZ:Gf prog 103 2 2=true:=by kernel_rfl
def ZN:Gf prog 103 3 3=true:=by kernel_rfl
def mP:CC prog 58=true:=by kernel_rfl
def nI:CC prog 31=true:=by kernel_rfl
def O1:Gf prog 42 0 0=true:=by kernel_rfl
def Ou:Gf prog 84 3 23=true:=by kernel_rfl
def Tm:JF prog 45 1 false=true:=by kernel_rfl
def cX:U4 prog 50=some ([(0,1),(1,1),(2,1),(3,1),(4,1)],[.int .i64 0,.int .i64 0,.int .i64 0,.int .i64 0,.slice none 0 0]):=by kernel_rfl
def Wf:N3 prog 45=some (50,5,56,[.int .i64 0,.int .i64 0,.int .i64 0,.int .i64 0,.slice none 0 0]):=by kernel_rfl
def nH:CC prog 32=true:=by kernel_rfl
def Wi:CC prog 16=true:=by kernel_rfl
def cW:U4 prog 60=some ([(0,1),(1,1),(2,1)],[.int .i64 0,.int .i64 0,.slice none 0 0]):=by kernel_rfl
def SE:N3 prog 33=some (60,3,40,[.int .i64 0,.int .i64 0,.slice none 0 0]):=by kernel_rfl
def mO:CC prog 60=true:=by kernel_rfl
def Kk:Gf prog 84 4 24=true:=by kernel_rfl
def nO:CC prog 23=true:=by kernel_rfl
def nG:CC prog 33=true:=by kernel_rfl
def QR:Gf prog 42 3 3=true:=by kernel_rfl
def Vq:JF prog 39 1 false=true:=by kernel_rfl
def T0:LJ prog 39 78 4=true:=by kernel_rfl
def dL:CC prog 96=true:=by kernel_rfl
def WT:Gf prog 78 1 1=true:=by kernel_rfl
def WS:Gf prog 78 2 2=true:=by kernel_rfl
def mD:CC prog 84=true:=by kernel_rfl
def cN:JF prog 78 4 true=true:=by kernel_rfl
def jF:FK prog 78=some [.int .i64 0,.int .i64 0,.int .i64 0,.int .i64 0]:=by kernel_rfl
def WU:Gf prog 78 0 0=true:=by kernel_rfl
def QK:Gf prog 78 3 3=true:=by kernel_rfl
def PJ:U4 prog 111=some ([(0,1),(1,1),(2,1),(3,1)],[.int .i64 0,.int .i64 0,.int .i64 0,.nilFunc]):=by kernel_rfl
def mE:CC prog 83=true:=by kernel_rfl
def L7:N3 prog 107=some (111,4,32,[.int .i64 0,.int .i64 0,.int .i64 0,.nilFunc]):=by kernel_rfl
def mM:CC prog 62=true:=by kernel_rfl
def Q9:CC prog 104=true:=by kernel_rfl
def gL:CC prog 106=true:=by kernel_rfl
def gN:CC prog 105=true:=by kernel_rfl
def lY:CC prog 97=true:=by kernel_rfl
def Xn:FK prog 29=some [.slice none 0 0]:=by kernel_rfl
def lI:pJ prog 29=true:=by kernel_rfl
def gJ:CC prog 108=true:=by kernel_rfl
def gP:CC prog 101=true:=by kernel_rfl
def mA:CC prog 90=true:=by kernel_rfl
def dK:CC prog 98=true:=by kernel_rfl
def mC:CC prog 85=true:=by kernel_rfl
def Uk:CC prog 66=true:=by kernel_rfl
def Ui:CC prog 89=true:=by kernel_rfl
def dQ:CC prog 86=true:=by kernel_rfl
def mL:CC prog 63=true:=by kernel_rfl
def fY:N3 prog 139=some (107,1,24,[.slice none 0 0]):=by kernel_rfl
def Sd:LJ prog 139 107 1=true:=by kernel_rfl
def X2:JF prog 107 1 false=true:=by kernel_rfl
def Mb:LJ prog 107 111 4=true:=by kernel_rfl
def oU:prog.underlying 3=some (.int .i64):=by kernel_rfl
def mF:CC prog 82=true:=by kernel_rfl
def mN:CC prog 61=true:=by kernel_rfl
def ZK:Gf prog 111 3 3=true:=by kernel_rfl
def eU:JF prog 109 1 false=true:=by kernel_rfl
def Q0:Gf prog 111 0 0=true:=by kernel_rfl
def ZL:Gf prog 111 2 2=true:=by kernel_rfl
def gK:CC prog 107=true:=by kernel_rfl
def gQ:CC prog 100=true:=by kernel_rfl
def lX:CC prog 99=true:=by kernel_rfl
def S7:Gf prog 84 5 25=true:=by kernel_rfl
def ZM:Gf prog 111 1 1=true:=by kernel_rfl
def mB:CC prog 87=true:=by kernel_rfl
def U0:JF prog 111 4 true=true:=by kernel_rfl
def eL:FK prog 111=some [.int .i64 0,.int .i64 0,.int .i64 0,.nilFunc]:=by kernel_rfl
def ZZ:CC prog 64=true:=by kernel_rfl
def mK:CC prog 65=true:=by kernel_rfl
def nF:CC prog 34=true:=by kernel_rfl
def Wk:CC prog 11=true:=by kernel_rfl
def jU:U4 prog 78=some ([(0,1),(1,1),(2,1),(3,1)],[.int .i64 0,.int .i64 0,.int .i64 0,.int .i64 0]):=by kernel_rfl
def lQ:N3 prog 39=some (78,4,32,[.int .i64 0,.int .i64 0,.int .i64 0,.int .i64 0]):=by kernel_rfl
def I4:LJ prog 45 50 5=true:=by kernel_rfl
def Jx:Gf prog 50 3 3=true:=by kernel_rfl
def KN:Gf prog 50 4 4=true:=by kernel_rfl
def Ju:CC prog 18=true:=by kernel_rfl
def dW:CC prog 35=true:=by kernel_rfl
def Za:CC prog 12=true:=by kernel_rfl
def lN:fV prog 69=some [1,1,2,2]:=by kernel_rfl
def Um:CC prog 41=true:=by kernel_rfl
def nD:CC prog 40=true:=by kernel_rfl
def nB:CC prog 43=true:=by kernel_rfl
def nC:CC prog 42=true:=by kernel_rfl
def nA:CC prog 44=true:=by kernel_rfl
def dY:CC prog 20=true:=by kernel_rfl
def pK:CC prog 9=true:=by kernel_rfl
def nL:CC prog 28=true:=by kernel_rfl
def nS:CC prog 10=true:=by kernel_rfl
def Un:CC prog 13=true:=by kernel_rfl
end Go.Proofs.YtblcgjadhemlbaaGreat
