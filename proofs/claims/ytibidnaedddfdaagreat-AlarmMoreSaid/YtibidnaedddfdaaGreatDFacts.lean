import Derived.Test.YtibidnaedddfdaaGreatDReps
import Derived.Test.YtibidnaedddfdaaGreatRows
namespace Go.Proofs.YtibidnaedddfdaaGreat
set_option linter.all false
open Go.RowKit
open Go.Proofs.Tryz
def ZT:TB prog 114=some ([(0,1),(1,1),(2,1),(3,1),(4,1),(5,1),(6,1)],[.string ByteArray.empty,.int .i64 0,.int .i64 0,.int .i64 0,.int .i64 0,.int .i64 0,.int .i64 0]):=by kernel_rfl
def Ql:D7 prog 114=some [.string ByteArray.empty,.int .i64 0,.int .i64 0,.int .i64 0,.int .i64 0,.int .i64 0,.int .i64 0]:=by kernel_rfl
def KY:Hd prog 114 7 true=true:=by kernel_rfl
def NO:TB prog 64=some ([(0,1),(1,1)],[.int .i64 0,.bool false]):=by kernel_rfl
def Zw:NI prog 117=some (64,2,16,[.int .i64 0,.bool false]):=by kernel_rfl
def TD:JZ prog 117 64 2=true:=by kernel_rfl
def TS:NI prog 115=some (119,3,24,[.int .i64 0,.int .i64 0,.int .i64 0]):=by kernel_rfl
def PC:TB prog 119=some ([(0,1),(1,1),(2,1)],[.int .i64 0,.int .i64 0,.int .i64 0]):=by kernel_rfl
def VF:D7 prog 119=some [.int .i64 0,.int .i64 0,.int .i64 0]:=by kernel_rfl
def JX:Hd prog 119 3 true=true:=by kernel_rfl
def MT:FZ prog 64 0 0=true:=by kernel_rfl
def AZ:Hd prog 3 1 false=true:=by kernel_rfl
def PY:FZ prog 114 3 3=true:=by kernel_rfl
def YB:FZ prog 64 1 1=true:=by kernel_rfl
def N7:Hd prog 4 1 false=true:=by kernel_rfl
def ON:Hd prog 64 2 true=true:=by kernel_rfl
def Z7:Br prog 153=true:=by kernel_rfl
def L0:FZ prog 119 0 0=true:=by kernel_rfl
def PX:FZ prog 119 1 1=true:=by kernel_rfl
def WT:FZ prog 119 2 2=true:=by kernel_rfl
def Yn:D7 prog 64=some [.int .i64 0,.bool false]:=by kernel_rfl
def aG:Br prog 118=true:=by kernel_rfl
def eG:Br prog 55=true:=by kernel_rfl
def Wb:NI prog 29=some (3,1,8,[.int .i64 0]):=by kernel_rfl
def Hf:JZ prog 29 3 1=true:=by kernel_rfl
def mo:prog.follows .mixedOrders=true:=by kernel_rfl
def TE:JZ prog 115 119 3=true:=by kernel_rfl
def fA:Br prog 15=true:=by kernel_rfl
def En:FZ prog 31 3 3=true:=by kernel_rfl
def HD:Hd prog 23 1 false=true:=by kernel_rfl
def Ga:JZ prog 23 57 12=true:=by kernel_rfl
def Gu:FZ prog 31 4 4=true:=by kernel_rfl
def JP:Hd prog 24 1 false=true:=by kernel_rfl
def Ht:JZ prog 24 102 18=true:=by kernel_rfl
def NR:JZ prog 59 123 3=true:=by kernel_rfl
def NQ:JZ prog 60 42 5=true:=by kernel_rfl
def UH:FZ prog 42 1 1=true:=by kernel_rfl
def Yt:Hd prog 37 1 false=true:=by kernel_rfl
def Vc:JZ prog 37 171 2=true:=by kernel_rfl
def UG:FZ prog 42 2 2=true:=by kernel_rfl
def Ys:Hd prog 38 1 false=true:=by kernel_rfl
def Vb:JZ prog 38 173 2=true:=by kernel_rfl
def UF:FZ prog 42 3 3=true:=by kernel_rfl
def Yr:Hd prog 39 1 false=true:=by kernel_rfl
def Va:JZ prog 39 184 4=true:=by kernel_rfl
def YG:FZ prog 42 4 4=true:=by kernel_rfl
def cI:Hd prog 40 1 false=true:=by kernel_rfl
def cM:JZ prog 40 260 4=true:=by kernel_rfl
def YH:FZ prog 42 0 0=true:=by kernel_rfl
def Ro:Hd prog 29 1 false=true:=by kernel_rfl
def Hc:Hd prog 31 11 true=true:=by kernel_rfl
def eZ:Br prog 16=true:=by kernel_rfl
def SS:FZ prog 123 0 0=true:=by kernel_rfl
def Nn:FZ prog 123 1 1=true:=by kernel_rfl
def Nm:FZ prog 123 2 2=true:=by kernel_rfl
def Qq:Hd prog 121 1 false=true:=by kernel_rfl
def PE:JZ prog 121 32 1=true:=by kernel_rfl
def EV:FZ prog 51 0 0=true:=by kernel_rfl
def D2:FZ prog 51 1 1=true:=by kernel_rfl
def IK:Hd prog 32 1 false=true:=by kernel_rfl
def Gs:JZ prog 32 51 2=true:=by kernel_rfl
def BY:Hd prog 51 2 true=true:=by kernel_rfl
def F7:D7 prog 51=some [.int .i64 0,.int .i64 0]:=by kernel_rfl
def Qc:Br prog 13=true:=by kernel_rfl
def O8:Hd prog 123 3 true=true:=by kernel_rfl
def eE:Br prog 56=true:=by kernel_rfl
def eY:Br prog 17=true:=by kernel_rfl
def RE:FZ prog 31 0 0=true:=by kernel_rfl
def P5:Hd prog 9 1 false=true:=by kernel_rfl
def P4:prog.underlying 9=some .string:=by kernel_rfl
def O2:FZ prog 31 1 1=true:=by kernel_rfl
def Tl:Hd prog 22 1 false=true:=by kernel_rfl
def Rz:JZ prog 22 9 1=true:=by kernel_rfl
def HV:Br prog 85=true:=by kernel_rfl
def RC:FZ prog 31 2 2=true:=by kernel_rfl
def K5:FZ prog 31 5 5=true:=by kernel_rfl
def O7:Hd prog 25 1 false=true:=by kernel_rfl
def NS:JZ prog 25 114 7=true:=by kernel_rfl
def RB:FZ prog 31 6 6=true:=by kernel_rfl
def VN:Hd prog 26 1 false=true:=by kernel_rfl
def Ry:JZ prog 26 147 5=true:=by kernel_rfl
def RA:FZ prog 31 7 7=true:=by kernel_rfl
def VM:Hd prog 27 1 false=true:=by kernel_rfl
def Rx:JZ prog 27 160 7=true:=by kernel_rfl
def O1:FZ prog 31 8 8=true:=by kernel_rfl
def Tk:Hd prog 28 1 false=true:=by kernel_rfl
def QK:JZ prog 28 158 2=true:=by kernel_rfl
def UI:FZ prog 31 9 9=true:=by kernel_rfl
def WB:FZ prog 31 10 10=true:=by kernel_rfl
def I3:Br prog 86=true:=by kernel_rfl
def ZH:D7 prog 154=some [.map none]:=by kernel_rfl
def VT:Hd prog 154 1 false=true:=by kernel_rfl
def bX:D7 prog 4=some [.bool false]:=by kernel_rfl
def ZR:TB prog 210=some ([(0,1),(1,1)],[.string ByteArray.empty,.string ByteArray.empty]):=by kernel_rfl
def Y9:D7 prog 210=some [.string ByteArray.empty,.string ByteArray.empty]:=by kernel_rfl
def S7:Hd prog 210 2 true=true:=by kernel_rfl
def aB:Br prog 140=true:=by kernel_rfl
def VL:prog.underlying 154=some (.map 210 4):=by kernel_rfl
def Zr:Zs prog 210=some [3,3]:=by kernel_rfl
def T9:MG prog 210 (λk:AK=>Value.agg (AK.v k).toArray):=MG.agg (f:=AK.v) underlying210 Zr (λk=>rfl) (λa b=>rfl) (λk e w=>by kernel_rfl) (λa b h=>by
 simp only[AK.v,P3,XW,iQ,RO,jG,beq_iff_eq] at h
 simp [AK.v,h]) (λa=>by simp [Instr.sameBits,AK.v,RO.2])
def gA:∀w,(zeroValue 4).run prog w= .ok (.bool false) w:=λw=>by kernel_rfl
def eB:Br prog 88=true:=by kernel_rfl
def Pj:Br prog 87=true:=by kernel_rfl
def KO:Hd prog 57 12 true=true:=by kernel_rfl
def QG:D7 prog 57=some [.string ByteArray.empty,.int .i64 0,.int .i64 0,.int .i64 0,.slice none 0 0,.slice none 0 0,.int .i64 0,.int .i64 0,.int .i64 0,.int .i64 0,.int .i64 0,.slice none 0 0]:=by kernel_rfl
def YF:FZ prog 57 0 0=true:=by kernel_rfl
def FC:Hd prog 102 18 true=true:=by kernel_rfl
def Mx:D7 prog 102=some [.string ByteArray.empty,.int .i64 0,.int .i64 0,.int .i64 0,.slice none 0 0,.slice none 0 0,.slice none 0 0,.int .i64 0,.int .i64 0,.int .i64 0,.int .i64 0,.int .i64 0,.int .i64 0,.int .i64 0,.int .i64 0,.int .i64 0,.int .i64 0,.int .i64 0]:=by kernel_rfl
def WY:FZ prog 102 0 0=true:=by kernel_rfl
def WX:FZ prog 114 0 0=true:=by kernel_rfl
def Qo:Hd prog 158 2 true=true:=by kernel_rfl
def VD:D7 prog 158=some [.string ByteArray.empty,.int .i64 0]:=by kernel_rfl
def WO:FZ prog 158 0 0=true:=by kernel_rfl
def Qp:Hd prog 147 5 true=true:=by kernel_rfl
def VE:D7 prog 147=some [.string ByteArray.empty,.int .i64 0,.int .i64 0,.int .i64 0,.int .i64 0]:=by kernel_rfl
def WS:FZ prog 147 0 0=true:=by kernel_rfl
def Qn:Hd prog 160 7 true=true:=by kernel_rfl
def VC:D7 prog 160=some [.string ByteArray.empty,.int .i64 0,.int .i64 0,.int .i64 0,.int .i64 0,.int .i64 0,.int .i64 0]:=by kernel_rfl
def WM:FZ prog 160 0 0=true:=by kernel_rfl
def He:JZ prog 54 90 2=true:=by kernel_rfl
def OM:Hd prog 90 2 true=true:=by kernel_rfl
def Ti:D7 prog 90=some [.int .i64 0,.int .i64 0]:=by kernel_rfl
def IT:FZ prog 90 0 0=true:=by kernel_rfl
def Hu:FZ prog 90 1 1=true:=by kernel_rfl
def Ph:Br prog 92=true:=by kernel_rfl
def YE:FZ prog 57 1 1=true:=by kernel_rfl
def K4:FZ prog 57 2 2=true:=by kernel_rfl
def Q8:FZ prog 57 9 9=true:=by kernel_rfl
def Nj:FZ prog 57 3 3=true:=by kernel_rfl
def WA:FZ prog 57 10 10=true:=by kernel_rfl
def YD:FZ prog 57 4 4=true:=by kernel_rfl
def Hs:Hd prog 54 1 false=true:=by kernel_rfl
def Pi:Br prog 89=true:=by kernel_rfl
def UE:FZ prog 57 5 5=true:=by kernel_rfl
def Q9:FZ prog 57 6 6=true:=by kernel_rfl
def KR:FZ prog 57 7 7=true:=by kernel_rfl
def Wk:Br prog 90=true:=by kernel_rfl
def O0:FZ prog 57 8 8=true:=by kernel_rfl
def Y5:Br prog 91=true:=by kernel_rfl
def V9:FZ prog 57 11 11=true:=by kernel_rfl
def cG:Hd prog 55 1 false=true:=by kernel_rfl
def Yw:JZ prog 55 164 2=true:=by kernel_rfl
def VS:Hd prog 164 2 true=true:=by kernel_rfl
def ZG:D7 prog 164=some [.int .i64 0,.int .i64 0]:=by kernel_rfl
def PV:FZ prog 164 0 0=true:=by kernel_rfl
def WJ:FZ prog 164 1 1=true:=by kernel_rfl
def E6:FZ prog 102 1 1=true:=by kernel_rfl
def Mz:prog.underlying 3=some (.int .i64):=by kernel_rfl
def O6:prog.underlying 230=some (.int .u64):=by kernel_rfl
def Z1:Br prog 183=true:=by kernel_rfl
def Z6:Br prog 165=true:=by kernel_rfl
def KX:prog.underlying 213=some (.int .u64):=by kernel_rfl
def Wt:Br prog 142=true:=by kernel_rfl
def cF:prog.underlying 5=some (.int .u8):=by kernel_rfl
def Z0:Br prog 184=true:=by kernel_rfl
def Z5:Br prog 171=true:=by kernel_rfl
def Ws:Br prog 143=true:=by kernel_rfl
def RK:Br prog 152=true:=by kernel_rfl
def TY:Br prog 170=true:=by kernel_rfl
def L3:FZ prog 102 4 4=true:=by kernel_rfl
def IM:FZ prog 102 5 5=true:=by kernel_rfl
def L5:FZ prog 100 0 0=true:=by kernel_rfl
def L4:FZ prog 100 1 1=true:=by kernel_rfl
def Wu:Br prog 141=true:=by kernel_rfl
def Hg:FZ prog 102 6 7=true:=by kernel_rfl
def J2:FZ prog 102 7 8=true:=by kernel_rfl
def Pa:FZ prog 102 8 9=true:=by kernel_rfl
def I9:FZ prog 102 14 15=true:=by kernel_rfl
def Il:FZ prog 102 15 16=true:=by kernel_rfl
def Gb:FZ prog 102 3 3=true:=by kernel_rfl
def PZ:FZ prog 102 9 10=true:=by kernel_rfl
def HL:FZ prog 102 10 11=true:=by kernel_rfl
def IE:FZ prog 102 11 12=true:=by kernel_rfl
def MX:FZ prog 102 12 13=true:=by kernel_rfl
def JA:FZ prog 102 13 14=true:=by kernel_rfl
def H1:FZ prog 102 2 2=true:=by kernel_rfl
def MW:FZ prog 102 16 17=true:=by kernel_rfl
def eA:Br prog 93=true:=by kernel_rfl
def dZ:Br prog 94=true:=by kernel_rfl
def Y4:Br prog 95=true:=by kernel_rfl
def Qb:Br prog 96=true:=by kernel_rfl
def Vd:JZ prog 217 54 1=true:=by kernel_rfl
def Zv:NI prog 217=some (54,1,24,[.slice none 0 0]):=by kernel_rfl
def dY:Br prog 97=true:=by kernel_rfl
def No:FZ prog 114 1 1=true:=by kernel_rfl
def ST:FZ prog 114 2 2=true:=by kernel_rfl
def WW:FZ prog 114 4 4=true:=by kernel_rfl
def WV:FZ prog 114 5 5=true:=by kernel_rfl
def WU:FZ prog 114 6 6=true:=by kernel_rfl
def WN:FZ prog 158 1 1=true:=by kernel_rfl
def SR:FZ prog 147 1 1=true:=by kernel_rfl
def WQ:FZ prog 147 3 3=true:=by kernel_rfl
def WP:FZ prog 147 4 4=true:=by kernel_rfl
def aT:fW prog 167=some ([(0,1),(1,1),(2,1)],[.int .i64 0,.int .i64 0,.int .i64 0]):=by kernel_rfl
def ZF:D7 prog 167=some [.int .i64 0,.int .i64 0,.int .i64 0]:=by kernel_rfl
def ZN:Hd prog 167 3 true=true:=by kernel_rfl
def WR:FZ prog 147 2 2=true:=by kernel_rfl
def aS:gW prog 167 3 1=true:=by kernel_rfl
def SQ:FZ prog 160 1 1=true:=by kernel_rfl
def SP:FZ prog 160 2 2=true:=by kernel_rfl
def WL:FZ prog 160 3 3=true:=by kernel_rfl
def WK:FZ prog 160 4 4=true:=by kernel_rfl
def SO:FZ prog 160 6 6=true:=by kernel_rfl
def PW:FZ prog 160 5 5=true:=by kernel_rfl
def eX:Br prog 36=true:=by kernel_rfl
def eW:Br prog 37=true:=by kernel_rfl
def eV:Br prog 38=true:=by kernel_rfl
def eU:Br prog 39=true:=by kernel_rfl
def eS:Br prog 40=true:=by kernel_rfl
def eR:Br prog 41=true:=by kernel_rfl
def eQ:Br prog 42=true:=by kernel_rfl
def eP:Br prog 43=true:=by kernel_rfl
def eO:Br prog 44=true:=by kernel_rfl
def KT:FZ prog 36 0 0=true:=by kernel_rfl
def MV:FZ prog 36 1 1=true:=by kernel_rfl
def IU:FZ prog 36 3 3=true:=by kernel_rfl
def LK:Hd prog 34 1 false=true:=by kernel_rfl
def Lo:JZ prog 34 97 5=true:=by kernel_rfl
def Ip:TB prog 51=some ([(0,1),(1,1)],[.int .i64 0,.int .i64 0]):=by kernel_rfl
def Wm:Br prog 54=true:=by kernel_rfl
def SG:Zs prog 51=some [1,1]:=by kernel_rfl
def Wv:Br prog 14=true:=by kernel_rfl
def MU:FZ prog 36 2 2=true:=by kernel_rfl
def QJ:Hd prog 33 1 false=true:=by kernel_rfl
def G8:JZ prog 33 93 4=true:=by kernel_rfl
def Wr:Br prog 144=true:=by kernel_rfl
def Oz:FZ prog 93 0 0=true:=by kernel_rfl
def Y3:Br prog 99=true:=by kernel_rfl
def Ni:FZ prog 93 1 1=true:=by kernel_rfl
def dX:Br prog 98=true:=by kernel_rfl
def Ll:Hd prog 93 4 true=true:=by kernel_rfl
def Ym:D7 prog 93=some [.int .i64 0,.int .i64 0,.int .i64 0,.int .i64 0]:=by kernel_rfl
def MS:FZ prog 93 2 2=true:=by kernel_rfl
def Sf:Br prog 45=true:=by kernel_rfl
def Y6:Br prog 46=true:=by kernel_rfl
def JJ:FZ prog 97 0 0=true:=by kernel_rfl
def Oy:FZ prog 97 1 2=true:=by kernel_rfl
def Wl:Br prog 73=true:=by kernel_rfl
def Mr:Br prog 66=true:=by kernel_rfl
def JI:FZ prog 97 2 3=true:=by kernel_rfl
def IG:Hd prog 97 5 true=true:=by kernel_rfl
def Th:D7 prog 97=some [.int .i64 0,.int .i64 0,.int .i64 0,.int .i64 0,.int .i64 0]:=by kernel_rfl
def eN:Br prog 47=true:=by kernel_rfl
def fD:Br prog 10=true:=by kernel_rfl
def Jj:Hd prog 36 4 true=true:=by kernel_rfl
def fC:Br prog 11=true:=by kernel_rfl
def dU:NI prog 43=some (4,1,1,[.bool false]):=by kernel_rfl
def ZS:TB prog 123=some ([(0,1),(1,1),(2,1)],[.int .i64 0,.int .i64 0,.slice none 0 0]):=by kernel_rfl
def dT:NI prog 59=some (123,3,40,[.int .i64 0,.int .i64 0,.slice none 0 0]):=by kernel_rfl
def Xb:D7 prog 3=some [.int .i64 0]:=by kernel_rfl
def VB:D7 prog 36=some [.int .i64 0,.slice none 0 0,.slice none 0 0,.slice none 0 0]:=by kernel_rfl
def SW:NI prog 32=some (51,2,16,[.int .i64 0,.int .i64 0]):=by kernel_rfl
def VJ:∃e,prog.underlying 32=some (.slice e):=⟨51,by kernel_rfl⟩
def eM:Br prog 48=true:=by kernel_rfl
def VI:∃e,prog.underlying 34=some (.slice e):=⟨97,by kernel_rfl⟩
def Y1:NI prog 34=some (97,5,40,[.int .i64 0,.int .i64 0,.int .i64 0,.int .i64 0,.int .i64 0]):=by kernel_rfl
def eL:Br prog 49=true:=by kernel_rfl
def ZU:TB prog 106=some ([(0,11),(11,4),(15,1)],[.string ByteArray.empty,.slice none 0 0,.int .i64 0,.slice none 0 0,.slice none 0 0,.slice none 0 0,.slice none 0 0,.slice none 0 0,.slice none 0 0,.slice none 0 0,.int .i64 0,.int .i64 0,.slice none 0 0,.slice none 0 0,.slice none 0 0,.slice none 0 0]):=by kernel_rfl
def ZJ:D7 prog 106=some [.string ByteArray.empty,.slice none 0 0,.int .i64 0,.slice none 0 0,.slice none 0 0,.slice none 0 0,.slice none 0 0,.slice none 0 0,.slice none 0 0,.slice none 0 0,.int .i64 0,.int .i64 0,.slice none 0 0,.slice none 0 0,.slice none 0 0,.slice none 0 0]:=by kernel_rfl
def ZO:Hd prog 106 16 true=true:=by kernel_rfl
def VR:Hd prog 171 2 true=true:=by kernel_rfl
def ZE:D7 prog 171=some [.int .i64 0,.int .i64 0]:=by kernel_rfl
def Nl:FZ prog 171 1 1=true:=by kernel_rfl
def HK:FZ prog 106 0 0=true:=by kernel_rfl
def WI:FZ prog 171 0 0=true:=by kernel_rfl
def Fd:FZ prog 106 1 11=true:=by kernel_rfl
def VA:D7 prog 81=some [.int .i64 0,.int .i64 0,.bool false,.bool false]:=by kernel_rfl
def RL:Br prog 145=true:=by kernel_rfl
def UD:FZ prog 81 1 1=true:=by kernel_rfl
def Jw:Hd prog 81 4 true=true:=by kernel_rfl
def VQ:Hd prog 173 2 true=true:=by kernel_rfl
def ZD:D7 prog 173=some [.int .i64 0,.int .i64 0]:=by kernel_rfl
def PU:FZ prog 173 0 0=true:=by kernel_rfl
def VZ:TB prog 81=some ([(0,1),(1,1),(2,1),(3,1)],[.int .i64 0,.int .i64 0,.bool false,.bool false]):=by kernel_rfl
def WH:FZ prog 173 1 1=true:=by kernel_rfl
def aQ:Br prog 100=true:=by kernel_rfl
def X8:bT prog 81 1 1 3 1 false=true:=by kernel_rfl
def YA:FZ prog 81 2 2=true:=by kernel_rfl
def Q7:FZ prog 81 0 0=true:=by kernel_rfl
def Jc:Br prog 106=true:=by kernel_rfl
def OY:Br prog 60=true:=by kernel_rfl
def aA:Br prog 147=true:=by kernel_rfl
def X9:bT prog 81 0 0 3 1 false=true:=by kernel_rfl
def Wq:Br prog 146=true:=by kernel_rfl
def Yx:JZ prog 43 4 1=true:=by kernel_rfl
def aP:Br prog 101=true:=by kernel_rfl
def Rn:Hd prog 42 5 true=true:=by kernel_rfl
def eK:Br prog 50=true:=by kernel_rfl
def Ta:Br prog 102=true:=by kernel_rfl
def HJ:FZ prog 106 2 15=true:=by kernel_rfl
def SV:NI prog 33=some (93,4,32,[.int .i64 0,.int .i64 0,.int .i64 0,.int .i64 0]):=by kernel_rfl
def TZ:Br prog 103=true:=by kernel_rfl
def Z9:Br prog 148=true:=by kernel_rfl
def UC:FZ prog 81 3 3=true:=by kernel_rfl
def Z4:Br prog 172=true:=by kernel_rfl
def Z8:Br prog 149=true:=by kernel_rfl
def X7:bT prog 81 3 3 4 1 false=true:=by kernel_rfl
def aO:Br prog 104=true:=by kernel_rfl
def eJ:Br prog 51=true:=by kernel_rfl
def SJ:FZ prog 184 2 2=true:=by kernel_rfl
def VO:Hd prog 184 4 true=true:=by kernel_rfl
def ZA:D7 prog 184=some [.int .i64 0,.int .i64 0,.int .i64 0,.int .i64 0]:=by kernel_rfl
def WD:FZ prog 184 0 0=true:=by kernel_rfl
def WC:FZ prog 184 1 1=true:=by kernel_rfl
def Nk:FZ prog 184 3 3=true:=by kernel_rfl
def PB:TB prog 181=some ([(0,1),(1,1),(2,1),(3,1)],[.int .i64 0,.int .i64 0,.int .i64 0,.nilFunc]):=by kernel_rfl
def aN:Br prog 108=true:=by kernel_rfl
def Kc:NI prog 110=some (181,4,32,[.int .i64 0,.int .i64 0,.int .i64 0,.nilFunc]):=by kernel_rfl
def Pk:Br prog 173=true:=by kernel_rfl
def Z2:Br prog 175=true:=by kernel_rfl
def Z3:Br prog 174=true:=by kernel_rfl
def Wp:Br prog 150=true:=by kernel_rfl
def aL:Br prog 110=true:=by kernel_rfl
def Wn:Br prog 176=true:=by kernel_rfl
def Wo:Br prog 151=true:=by kernel_rfl
def Wx:Br prog 113=true:=by kernel_rfl
def Wy:Br prog 112=true:=by kernel_rfl
def aI:Br prog 115=true:=by kernel_rfl
def aM:Br prog 109=true:=by kernel_rfl
def aK:Br prog 111=true:=by kernel_rfl
def aJ:Br prog 114=true:=by kernel_rfl
def Ww:Br prog 117=true:=by kernel_rfl
def aH:Br prog 116=true:=by kernel_rfl
def Ve:JZ prog 110 181 4=true:=by kernel_rfl
def Yu:TB prog 93=some ([(0,1),(1,1),(2,2)],[.int .i64 0,.int .i64 0,.int .i64 0,.int .i64 0]):=by kernel_rfl
def aD:Br prog 124=true:=by kernel_rfl
def aC:Br prog 125=true:=by kernel_rfl
def eC:Br prog 67=true:=by kernel_rfl
def VP:Hd prog 181 4 true=true:=by kernel_rfl
def ZC:D7 prog 181=some [.int .i64 0,.int .i64 0,.int .i64 0,.nilFunc]:=by kernel_rfl
def SK:FZ prog 181 3 3=true:=by kernel_rfl
def VU:Hd prog 133 1 false=true:=by kernel_rfl
def W0:Br prog 105=true:=by kernel_rfl
def WG:FZ prog 181 0 0=true:=by kernel_rfl
def WE:FZ prog 181 1 1=true:=by kernel_rfl
def Wz:Br prog 107=true:=by kernel_rfl
def SL:FZ prog 181 2 2=true:=by kernel_rfl
def eH:Br prog 53=true:=by kernel_rfl
def eI:Br prog 52=true:=by kernel_rfl
def cJ:TB prog 42=some ([(0,1),(1,1),(2,1),(3,1),(4,1)],[.slice none 0 0,.slice none 0 0,.slice none 0 0,.slice none 0 0,.slice none 0 0]):=by kernel_rfl
def bW:D7 prog 42=some [.slice none 0 0,.slice none 0 0,.slice none 0 0,.slice none 0 0,.slice none 0 0]:=by kernel_rfl
def Yq:Hd prog 60 1 false=true:=by kernel_rfl
def cH:Hd prog 43 1 false=true:=by kernel_rfl
def aE:Br prog 120=true:=by kernel_rfl
def fB:Br prog 12=true:=by kernel_rfl
def ZI:D7 prog 123=some [.int .i64 0,.int .i64 0,.slice none 0 0]:=by kernel_rfl
def eD:Br prog 57=true:=by kernel_rfl
def aF:Br prog 119=true:=by kernel_rfl
def UP:Br prog 18=true:=by kernel_rfl
def Ox:bT prog 64 0 0 3 1 false=true:=by kernel_rfl
def gG:prog.underlying 3=some (.int .i64):=by kernel_rfl
end Go.Proofs.YtibidnaedddfdaaGreat
