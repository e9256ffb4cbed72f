import Derived.Test.YtblcgjadhemlbaaGreatRReps
import Derived.Test.YtblcgjadhemlbaaGreatRows
namespace Go.Proofs.YtblcgjadhemlbaaGreat
open Go.RowKit
set_option linter.unusedVariables false
set_option linter.unusedSimpArgs false
theorem Yk:EI Tryz.prog 31=some [.string ByteArray.empty,.slice none 0 0,.int .i64 0,.slice none 0 0,.slice none 0 0,.slice none 0 0,.slice none 0 0,.slice none 0 0,.slice none 0 0,.slice none 0 0,.int .i64 0]:=by kernel_rfl
theorem cE:TN Tryz.prog 98=some ([(0,1),(1,1)],[.int .i64 0,.int .i64 0]):=by kernel_rfl
theorem dV:NF Tryz.prog 53=some (98,2,16,[.int .i64 0,.int .i64 0]):=by kernel_rfl
theorem Ef:NF Tryz.prog 29=some (3,1,8,[.int .i64 0]):=by kernel_rfl
theorem cH:TN Tryz.prog 56=some ([(0,1),(1,1),(2,1),(3,1),(4,1),(5,1),(6,1),(7,1),(8,1),(9,1),(10,1),(11,1)],[.string ByteArray.empty,.int .i64 0,.int .i64 0,.int .i64 0,.slice none 0 0,.slice none 0 0,.int .i64 0,.int .i64 0,.int .i64 0,.int .i64 0,.int .i64 0,.slice none 0 0]):=by kernel_rfl
theorem OZ:EI Tryz.prog 56=some [.string ByteArray.empty,.int .i64 0,.int .i64 0,.int .i64 0,.slice none 0 0,.slice none 0 0,.int .i64 0,.int .i64 0,.int .i64 0,.int .i64 0,.int .i64 0,.slice none 0 0]:=by kernel_rfl
theorem J4:IJ Tryz.prog 56 12 true=true:=by kernel_rfl
theorem dY:NF Tryz.prog 22=some (9,1,16,[.string ByteArray.empty]):=by kernel_rfl
theorem dX:NF Tryz.prog 23=some (56,12,152,[.string ByteArray.empty,.int .i64 0,.int .i64 0,.int .i64 0,.slice none 0 0,.slice none 0 0,.int .i64 0,.int .i64 0,.int .i64 0,.int .i64 0,.int .i64 0,.slice none 0 0]):=by kernel_rfl
theorem cI:TN Tryz.prog 31=some ([(0,1),(1,1),(2,1),(3,1),(4,1),(5,1),(6,1),(7,1),(8,1),(9,1),(10,1)],[.string ByteArray.empty,.slice none 0 0,.int .i64 0,.slice none 0 0,.slice none 0 0,.slice none 0 0,.slice none 0 0,.slice none 0 0,.slice none 0 0,.slice none 0 0,.int .i64 0]):=by kernel_rfl
theorem G6:IJ Tryz.prog 31 11 true=true:=by kernel_rfl
theorem fS:BT Tryz.prog 26=true:=by kernel_rfl
theorem Oa:EI Tryz.prog 36=some [.int .i64 0,.slice none 0 0,.slice none 0 0,.slice none 0 0,.slice none 0 0,.slice none 0 0,.slice none 0 0]:=by kernel_rfl
theorem mo:Tryz.prog.follows .mixedOrders=true:=by kernel_rfl
theorem C1:FU Tryz.prog 31 3 3=true:=by kernel_rfl
theorem F7:IJ Tryz.prog 23 1 false=true:=by kernel_rfl
theorem FA:KW Tryz.prog 23 56 12=true:=by kernel_rfl
theorem Gc:FU Tryz.prog 31 4 4=true:=by kernel_rfl
theorem JR:IJ Tryz.prog 24 1 false=true:=by kernel_rfl
theorem Hf:KW Tryz.prog 24 67 18=true:=by kernel_rfl
theorem H1:FU Tryz.prog 31 1 1=true:=by kernel_rfl
theorem Kj:IJ Tryz.prog 22 1 false=true:=by kernel_rfl
theorem KN:KW Tryz.prog 22 9 1=true:=by kernel_rfl
theorem Vm:TN Tryz.prog 36=some ([(0,1),(1,1),(2,1),(3,1),(4,1),(5,1),(6,1)],[.int .i64 0,.slice none 0 0,.slice none 0 0,.slice none 0 0,.slice none 0 0,.slice none 0 0,.slice none 0 0]):=by kernel_rfl
theorem Wx:NF Tryz.prog 32=some (29,1,24,[.slice none 0 0]):=by kernel_rfl
theorem Ww:NF Tryz.prog 34=some (69,4,24,[.int .i64 0,.int .i64 0,.bool false,.bool false]):=by kernel_rfl
theorem HI:IJ Tryz.prog 36 7 true=true:=by kernel_rfl
theorem VU:∃e,Tryz.prog.underlying 29=some (.slice e):=⟨3,by kernel_rfl⟩
theorem Dm:FU Tryz.prog 36 1 1=true:=by kernel_rfl
theorem Gu:IJ Tryz.prog 32 1 false=true:=by kernel_rfl
theorem Rg:FU Tryz.prog 56 5 5=true:=by kernel_rfl
theorem BW:IJ Tryz.prog 29 1 false=true:=by kernel_rfl
theorem P5:BT Tryz.prog 39=true:=by kernel_rfl
theorem Ev:KW Tryz.prog 32 29 1=true:=by kernel_rfl
theorem fZ:BT Tryz.prog 15=true:=by kernel_rfl
theorem Rn:FU Tryz.prog 31 0 0=true:=by kernel_rfl
theorem QI:IJ Tryz.prog 9 1 false=true:=by kernel_rfl
theorem QH:Tryz.prog.underlying 9=some .string:=by kernel_rfl
theorem Hu:BT Tryz.prog 68=true:=by kernel_rfl
theorem Rm:FU Tryz.prog 31 2 2=true:=by kernel_rfl
theorem Ag:IJ Tryz.prog 3 1 false=true:=by kernel_rfl
theorem Nz:FU Tryz.prog 31 5 5=true:=by kernel_rfl
theorem SF:IJ Tryz.prog 25 1 false=true:=by kernel_rfl
theorem Pc:KW Tryz.prog 25 124 7=true:=by kernel_rfl
theorem Rl:FU Tryz.prog 31 6 6=true:=by kernel_rfl
theorem Va:IJ Tryz.prog 26 1 false=true:=by kernel_rfl
theorem SQ:KW Tryz.prog 26 128 5=true:=by kernel_rfl
theorem Rk:FU Tryz.prog 31 7 7=true:=by kernel_rfl
theorem VZ:IJ Tryz.prog 27 1 false=true:=by kernel_rfl
theorem SP:KW Tryz.prog 27 130 7=true:=by kernel_rfl
theorem PQ:FU Tryz.prog 31 8 8=true:=by kernel_rfl
theorem T0:IJ Tryz.prog 28 1 false=true:=by kernel_rfl
theorem Qc:KW Tryz.prog 28 126 2=true:=by kernel_rfl
theorem UY:FU Tryz.prog 31 9 9=true:=by kernel_rfl
theorem BQ:KW Tryz.prog 29 3 1=true:=by kernel_rfl
theorem WW:FU Tryz.prog 31 10 10=true:=by kernel_rfl
theorem Jm:BT Tryz.prog 69=true:=by kernel_rfl
theorem ZS:EI Tryz.prog 120=some [.map none]:=by kernel_rfl
theorem Vc:IJ Tryz.prog 120 1 false=true:=by kernel_rfl
theorem iE:EI Tryz.prog 4=some [.bool false]:=by kernel_rfl
theorem Oo:IJ Tryz.prog 4 1 false=true:=by kernel_rfl
theorem Zb:TN Tryz.prog 151=some ([(0,1),(1,1)],[.string ByteArray.empty,.string ByteArray.empty]):=by kernel_rfl
theorem ZP:EI Tryz.prog 151=some [.string ByteArray.empty,.string ByteArray.empty]:=by kernel_rfl
theorem TL:IJ Tryz.prog 151 2 true=true:=by kernel_rfl
theorem eF:BT Tryz.prog 92=true:=by kernel_rfl
theorem VW:Tryz.prog.underlying 120=some (.map 151 4):=by kernel_rfl
theorem Zy:Zz Tryz.prog 151=some [3,3]:=by kernel_rfl
theorem UL:Mo Tryz.prog 151 (λk:AT=>Value.agg (AT.v k).toArray):=Mo.agg (f:=AT.v) Tryz.underlying151 Zy (λk=>rfl) (λa b=>rfl) (λk e w=>by kernel_rfl) (λa b h=>by
 simp only[AT.v,Wv,YD,Bool.and_eq_true,Rr,decide_eq_true_eq,beq_iff_eq] at h
 simp [AT.v,h]) (λa=>by simp [Instr.sameBits,AT.v,Rr.2])
theorem iD:∀w,(zeroValue 4).run Tryz.prog w= .ok (.bool false) w:=λw=>by kernel_rfl
theorem eP:BT Tryz.prog 71=true:=by kernel_rfl
theorem P4:BT Tryz.prog 70=true:=by kernel_rfl
theorem YA:FU Tryz.prog 56 0 0=true:=by kernel_rfl
theorem Hd:IJ Tryz.prog 67 18 true=true:=by kernel_rfl
theorem OY:EI Tryz.prog 67=some [.string ByteArray.empty,.int .i64 0,.int .i64 0,.int .i64 0,.slice none 0 0,.slice none 0 0,.slice none 0 0,.int .i64 0,.int .i64 0,.int .i64 0,.int .i64 0,.int .i64 0,.int .i64 0,.int .i64 0,.int .i64 0,.int .i64 0,.int .i64 0,.int .i64 0]:=by kernel_rfl
theorem X7:FU Tryz.prog 67 0 0=true:=by kernel_rfl
theorem Q8:IJ Tryz.prog 124 7 true=true:=by kernel_rfl
theorem VR:EI Tryz.prog 124=some [.string ByteArray.empty,.int .i64 0,.int .i64 0,.int .i64 0,.int .i64 0,.int .i64 0,.int .i64 0]:=by kernel_rfl
theorem Wo:FU Tryz.prog 124 0 0=true:=by kernel_rfl
theorem Q7:IJ Tryz.prog 126 2 true=true:=by kernel_rfl
theorem VQ:EI Tryz.prog 126=some [.string ByteArray.empty,.int .i64 0]:=by kernel_rfl
theorem Wh:FU Tryz.prog 126 0 0=true:=by kernel_rfl
theorem Q6:IJ Tryz.prog 128 5 true=true:=by kernel_rfl
theorem VP:EI Tryz.prog 128=some [.string ByteArray.empty,.int .i64 0,.int .i64 0,.int .i64 0,.int .i64 0]:=by kernel_rfl
theorem Wf:FU Tryz.prog 128 0 0=true:=by kernel_rfl
theorem Q5:IJ Tryz.prog 130 7 true=true:=by kernel_rfl
theorem VO:EI Tryz.prog 130=some [.string ByteArray.empty,.int .i64 0,.int .i64 0,.int .i64 0,.int .i64 0,.int .i64 0,.int .i64 0]:=by kernel_rfl
theorem Wa:FU Tryz.prog 130 0 0=true:=by kernel_rfl
theorem H8:KW Tryz.prog 53 98 2=true:=by kernel_rfl
theorem Ob:IJ Tryz.prog 98 2 true=true:=by kernel_rfl
theorem Tu:EI Tryz.prog 98=some [.int .i64 0,.int .i64 0]:=by kernel_rfl
theorem JD:FU Tryz.prog 98 0 0=true:=by kernel_rfl
theorem IQ:FU Tryz.prog 98 1 1=true:=by kernel_rfl
theorem P2:BT Tryz.prog 75=true:=by kernel_rfl
theorem X9:FU Tryz.prog 56 1 1=true:=by kernel_rfl
theorem Lm:FU Tryz.prog 56 2 2=true:=by kernel_rfl
theorem PN:FU Tryz.prog 56 9 9=true:=by kernel_rfl
theorem UT:FU Tryz.prog 56 3 3=true:=by kernel_rfl
theorem WV:FU Tryz.prog 56 10 10=true:=by kernel_rfl
theorem X8:FU Tryz.prog 56 4 4=true:=by kernel_rfl
theorem IX:IJ Tryz.prog 53 1 false=true:=by kernel_rfl
theorem P3:BT Tryz.prog 72=true:=by kernel_rfl
theorem Rf:FU Tryz.prog 56 6 6=true:=by kernel_rfl
theorem K5:FU Tryz.prog 56 7 7=true:=by kernel_rfl
theorem W4:BT Tryz.prog 73=true:=by kernel_rfl
theorem PO:FU Tryz.prog 56 8 8=true:=by kernel_rfl
theorem ZE:BT Tryz.prog 74=true:=by kernel_rfl
theorem WU:FU Tryz.prog 56 11 11=true:=by kernel_rfl
theorem cC:IJ Tryz.prog 54 1 false=true:=by kernel_rfl
theorem Yw:KW Tryz.prog 54 134 2=true:=by kernel_rfl
theorem Vb:IJ Tryz.prog 134 2 true=true:=by kernel_rfl
theorem ZR:EI Tryz.prog 134=some [.int .i64 0,.int .i64 0]:=by kernel_rfl
theorem Pw:FU Tryz.prog 134 0 0=true:=by kernel_rfl
theorem WX:FU Tryz.prog 134 1 1=true:=by kernel_rfl
theorem GK:FU Tryz.prog 67 1 1=true:=by kernel_rfl
theorem OG:Tryz.prog.underlying 3=some (.int .i64):=by kernel_rfl
theorem TK:Tryz.prog.underlying 164=some (.int .u64):=by kernel_rfl
theorem Z8:BT Tryz.prog 111=true:=by kernel_rfl
theorem Z9:BT Tryz.prog 110=true:=by kernel_rfl
theorem K8:Tryz.prog.underlying 154=some (.int .u64):=by kernel_rfl
theorem Y7:BT Tryz.prog 94=true:=by kernel_rfl
theorem cA:Tryz.prog.underlying 5=some (.int .u8):=by kernel_rfl
theorem Z7:BT Tryz.prog 112=true:=by kernel_rfl
theorem aE:BT Tryz.prog 103=true:=by kernel_rfl
theorem Y6:BT Tryz.prog 95=true:=by kernel_rfl
theorem Sz:BT Tryz.prog 88=true:=by kernel_rfl
theorem Tg:BT Tryz.prog 102=true:=by kernel_rfl
theorem M2:FU Tryz.prog 67 4 4=true:=by kernel_rfl
theorem K4:FU Tryz.prog 67 5 5=true:=by kernel_rfl
theorem PM:FU Tryz.prog 65 0 0=true:=by kernel_rfl
theorem PL:FU Tryz.prog 65 1 1=true:=by kernel_rfl
theorem Y8:BT Tryz.prog 93=true:=by kernel_rfl
theorem JV:FU Tryz.prog 67 6 7=true:=by kernel_rfl
theorem Nw:FU Tryz.prog 67 7 8=true:=by kernel_rfl
theorem Re:FU Tryz.prog 67 8 9=true:=by kernel_rfl
theorem Kq:FU Tryz.prog 67 14 15=true:=by kernel_rfl
theorem J6:FU Tryz.prog 67 15 16=true:=by kernel_rfl
theorem Hz:FU Tryz.prog 67 3 3=true:=by kernel_rfl
theorem Rc:FU Tryz.prog 67 9 10=true:=by kernel_rfl
theorem Ib:FU Tryz.prog 67 10 11=true:=by kernel_rfl
theorem JX:FU Tryz.prog 67 11 12=true:=by kernel_rfl
theorem Ny:FU Tryz.prog 67 12 13=true:=by kernel_rfl
theorem Nx:FU Tryz.prog 67 13 14=true:=by kernel_rfl
theorem JW:FU Tryz.prog 67 2 2=true:=by kernel_rfl
theorem MZ:FU Tryz.prog 67 16 17=true:=by kernel_rfl
theorem eO:BT Tryz.prog 76=true:=by kernel_rfl
theorem eN:BT Tryz.prog 77=true:=by kernel_rfl
theorem ZD:BT Tryz.prog 78=true:=by kernel_rfl
theorem Qr:BT Tryz.prog 79=true:=by kernel_rfl
theorem Vq:KW Tryz.prog 158 53 1=true:=by kernel_rfl
theorem Z1:NF Tryz.prog 158=some (53,1,24,[.slice none 0 0]):=by kernel_rfl
theorem eM:BT Tryz.prog 80=true:=by kernel_rfl
theorem Wn:FU Tryz.prog 124 1 1=true:=by kernel_rfl
theorem Wm:FU Tryz.prog 124 2 2=true:=by kernel_rfl
theorem Wl:FU Tryz.prog 124 3 3=true:=by kernel_rfl
theorem Wk:FU Tryz.prog 124 4 4=true:=by kernel_rfl
theorem Wj:FU Tryz.prog 124 5 5=true:=by kernel_rfl
theorem Wi:FU Tryz.prog 124 6 6=true:=by kernel_rfl
theorem Wg:FU Tryz.prog 126 1 1=true:=by kernel_rfl
theorem Ss:FU Tryz.prog 128 1 1=true:=by kernel_rfl
theorem Wc:FU Tryz.prog 128 3 3=true:=by kernel_rfl
theorem Wb:FU Tryz.prog 128 4 4=true:=by kernel_rfl
theorem aK:hO Tryz.prog 137=some ([(0,1),(1,1),(2,1)],[.int .i64 0,.int .i64 0,.int .i64 0]):=by kernel_rfl
theorem ZQ:EI Tryz.prog 137=some [.int .i64 0,.int .i64 0,.int .i64 0]:=by kernel_rfl
theorem ZZ:IJ Tryz.prog 137 3 true=true:=by kernel_rfl
theorem We:FU Tryz.prog 128 2 2=true:=by kernel_rfl
theorem aI:iZ Tryz.prog 137 3 1=true:=by kernel_rfl
theorem Sr:FU Tryz.prog 130 1 1=true:=by kernel_rfl
theorem Sq:FU Tryz.prog 130 2 2=true:=by kernel_rfl
theorem WZ:FU Tryz.prog 130 3 3=true:=by kernel_rfl
theorem WY:FU Tryz.prog 130 4 4=true:=by kernel_rfl
theorem So:FU Tryz.prog 130 6 6=true:=by kernel_rfl
theorem Px:FU Tryz.prog 130 5 5=true:=by kernel_rfl
theorem fF:BT Tryz.prog 47=true:=by kernel_rfl
theorem fE:BT Tryz.prog 48=true:=by kernel_rfl
theorem fD:BT Tryz.prog 49=true:=by kernel_rfl
theorem fC:BT Tryz.prog 50=true:=by kernel_rfl
theorem fB:BT Tryz.prog 51=true:=by kernel_rfl
theorem fA:BT Tryz.prog 52=true:=by kernel_rfl
theorem eZ:BT Tryz.prog 53=true:=by kernel_rfl
theorem eY:BT Tryz.prog 54=true:=by kernel_rfl
theorem eX:BT Tryz.prog 55=true:=by kernel_rfl
theorem HK:FU Tryz.prog 36 0 0=true:=by kernel_rfl
theorem Jy:FU Tryz.prog 36 2 2=true:=by kernel_rfl
theorem H0:FU Tryz.prog 36 4 4=true:=by kernel_rfl
theorem Ki:IJ Tryz.prog 34 1 false=true:=by kernel_rfl
theorem KM:KW Tryz.prog 34 69 4=true:=by kernel_rfl
theorem KZ:FU Tryz.prog 36 5 5=true:=by kernel_rfl
theorem Iq:FU Tryz.prog 36 6 6=true:=by kernel_rfl
theorem Gt:IJ Tryz.prog 69 4 true=true:=by kernel_rfl
theorem SA:EI Tryz.prog 69=some [.int .i64 0,.int .i64 0,.bool false,.bool false]:=by kernel_rfl
theorem M1:FU Tryz.prog 69 0 0=true:=by kernel_rfl
theorem PK:FU Tryz.prog 69 1 1=true:=by kernel_rfl
theorem Nv:FU Tryz.prog 69 3 3=true:=by kernel_rfl
theorem Y9:BT Tryz.prog 91=true:=by kernel_rfl
theorem Qs:BT Tryz.prog 36=true:=by kernel_rfl
theorem ZF:BT Tryz.prog 67=true:=by kernel_rfl
theorem NO:BT Tryz.prog 59=true:=by kernel_rfl
theorem G2:FU Tryz.prog 36 3 3=true:=by kernel_rfl
theorem I3:IJ Tryz.prog 33 1 false=true:=by kernel_rfl
theorem H9:KW Tryz.prog 33 60 3=true:=by kernel_rfl
theorem Kh:IJ Tryz.prog 60 3 true=true:=by kernel_rfl
theorem QY:EI Tryz.prog 60=some [.int .i64 0,.int .i64 0,.slice none 0 0]:=by kernel_rfl
theorem Ll:FU Tryz.prog 60 0 0=true:=by kernel_rfl
theorem KY:FU Tryz.prog 60 1 1=true:=by kernel_rfl
theorem Oi:BT Tryz.prog 57=true:=by kernel_rfl
theorem KX:FU Tryz.prog 60 2 2=true:=by kernel_rfl
theorem fK:BT Tryz.prog 37=true:=by kernel_rfl
theorem ZG:BT Tryz.prog 38=true:=by kernel_rfl
theorem ZI:BT Tryz.prog 27=true:=by kernel_rfl
theorem W7:BT Tryz.prog 14=true:=by kernel_rfl
theorem Yu:TN Tryz.prog 42=some ([(0,1),(1,1),(2,1),(3,1),(4,1)],[.slice none 0 0,.slice none 0 0,.slice none 0 0,.slice none 0 0,.slice none 0 0]):=by kernel_rfl
theorem VT:∃e,Tryz.prog.underlying 34=some (.slice e):=⟨69,by kernel_rfl⟩
theorem eW:BT Tryz.prog 56=true:=by kernel_rfl
theorem Tz:IJ Tryz.prog 42 5 true=true:=by kernel_rfl
theorem fQ:BT Tryz.prog 29=true:=by kernel_rfl
theorem cF:TN Tryz.prog 84=some ([(0,11),(11,5),(16,7),(23,1),(24,1),(25,1)],[.string ByteArray.empty,.slice none 0 0,.int .i64 0,.slice none 0 0,.slice none 0 0,.slice none 0 0,.slice none 0 0,.slice none 0 0,.slice none 0 0,.slice none 0 0,.int .i64 0,.slice none 0 0,.slice none 0 0,.slice none 0 0,.slice none 0 0,.slice none 0 0,.int .i64 0,.slice none 0 0,.slice none 0 0,.slice none 0 0,.slice none 0 0,.slice none 0 0,.slice none 0 0,.slice none 0 0,.slice none 0 0,.slice none 0 0]):=by kernel_rfl
theorem bP:EI Tryz.prog 84=some [.string ByteArray.empty,.slice none 0 0,.int .i64 0,.slice none 0 0,.slice none 0 0,.slice none 0 0,.slice none 0 0,.slice none 0 0,.slice none 0 0,.slice none 0 0,.int .i64 0,.slice none 0 0,.slice none 0 0,.slice none 0 0,.slice none 0 0,.slice none 0 0,.int .i64 0,.slice none 0 0,.slice none 0 0,.slice none 0 0,.slice none 0 0,.slice none 0 0,.slice none 0 0,.slice none 0 0,.slice none 0 0,.slice none 0 0]:=by kernel_rfl
theorem cB:IJ Tryz.prog 84 26 true=true:=by kernel_rfl
theorem M0:FU Tryz.prog 84 1 11=true:=by kernel_rfl
theorem UW:FU Tryz.prog 42 1 1=true:=by kernel_rfl
theorem Yr:IJ Tryz.prog 37 1 false=true:=by kernel_rfl
theorem Vp:KW Tryz.prog 37 71 2=true:=by kernel_rfl
theorem Rb:FU Tryz.prog 69 2 2=true:=by kernel_rfl
theorem Yo:IJ Tryz.prog 71 2 true=true:=by kernel_rfl
theorem bS:EI Tryz.prog 71=some [.int .i64 0,.int .i64 0]:=by kernel_rfl
theorem PJ:FU Tryz.prog 71 1 1=true:=by kernel_rfl
theorem GJ:FU Tryz.prog 84 0 0=true:=by kernel_rfl
theorem Cb:FU Tryz.prog 84 2 16=true:=by kernel_rfl
theorem X6:FU Tryz.prog 71 0 0=true:=by kernel_rfl
theorem fW:BT Tryz.prog 21=true:=by kernel_rfl
theorem UV:FU Tryz.prog 42 2 2=true:=by kernel_rfl
theorem Yq:IJ Tryz.prog 38 1 false=true:=by kernel_rfl
theorem Vo:KW Tryz.prog 38 74 2=true:=by kernel_rfl
theorem Ud:BT Tryz.prog 45=true:=by kernel_rfl
theorem Yn:IJ Tryz.prog 74 2 true=true:=by kernel_rfl
theorem bR:EI Tryz.prog 74=some [.int .i64 0,.int .i64 0]:=by kernel_rfl
theorem PI:FU Tryz.prog 74 0 0=true:=by kernel_rfl
theorem X5:FU Tryz.prog 74 1 1=true:=by kernel_rfl
theorem fV:BT Tryz.prog 22=true:=by kernel_rfl
theorem S7:BT Tryz.prog 46=true:=by kernel_rfl
theorem fT:BT Tryz.prog 24=true:=by kernel_rfl
theorem fP:BT Tryz.prog 30=true:=by kernel_rfl
theorem Ri:FU Tryz.prog 42 4 4=true:=by kernel_rfl
theorem VY:IJ Tryz.prog 40 1 false=true:=by kernel_rfl
theorem T3:KW Tryz.prog 40 103 4=true:=by kernel_rfl
theorem ZC:BT Tryz.prog 81=true:=by kernel_rfl
theorem Ve:IJ Tryz.prog 103 4 true=true:=by kernel_rfl
theorem ZU:EI Tryz.prog 103=some [.int .i64 0,.int .i64 0,.int .i64 0,.int .i64 0]:=by kernel_rfl
theorem Pz:FU Tryz.prog 103 0 0=true:=by kernel_rfl
theorem Sv:FU Tryz.prog 103 1 1=true:=by kernel_rfl
theorem Su:FU Tryz.prog 103 2 2=true:=by kernel_rfl
theorem Ws:FU Tryz.prog 103 3 3=true:=by kernel_rfl
theorem eV:BT Tryz.prog 58=true:=by kernel_rfl
theorem fO:BT Tryz.prog 31=true:=by kernel_rfl
theorem Rj:FU Tryz.prog 42 0 0=true:=by kernel_rfl
theorem Nu:FU Tryz.prog 84 3 23=true:=by kernel_rfl
theorem SE:IJ Tryz.prog 45 1 false=true:=by kernel_rfl
theorem Yt:TN Tryz.prog 50=some ([(0,1),(1,1),(2,1),(3,1),(4,1)],[.int .i64 0,.int .i64 0,.int .i64 0,.int .i64 0,.slice none 0 0]):=by kernel_rfl
theorem Ua:NF Tryz.prog 45=some (50,5,56,[.int .i64 0,.int .i64 0,.int .i64 0,.int .i64 0,.slice none 0 0]):=by kernel_rfl
theorem fN:BT Tryz.prog 32=true:=by kernel_rfl
theorem Qt:BT Tryz.prog 16=true:=by kernel_rfl
theorem Vl:TN Tryz.prog 60=some ([(0,1),(1,1),(2,1)],[.int .i64 0,.int .i64 0,.slice none 0 0]):=by kernel_rfl
theorem NN:NF Tryz.prog 33=some (60,3,40,[.int .i64 0,.int .i64 0,.slice none 0 0]):=by kernel_rfl
theorem eU:BT Tryz.prog 60=true:=by kernel_rfl
theorem Jx:FU Tryz.prog 84 4 24=true:=by kernel_rfl
theorem fU:BT Tryz.prog 23=true:=by kernel_rfl
theorem fM:BT Tryz.prog 33=true:=by kernel_rfl
theorem UU:FU Tryz.prog 42 3 3=true:=by kernel_rfl
theorem Yp:IJ Tryz.prog 39 1 false=true:=by kernel_rfl
theorem Vn:KW Tryz.prog 39 78 4=true:=by kernel_rfl
theorem Y5:BT Tryz.prog 96=true:=by kernel_rfl
theorem US:FU Tryz.prog 78 1 1=true:=by kernel_rfl
theorem UR:FU Tryz.prog 78 2 2=true:=by kernel_rfl
theorem eJ:BT Tryz.prog 84=true:=by kernel_rfl
theorem Ym:IJ Tryz.prog 78 4 true=true:=by kernel_rfl
theorem bQ:EI Tryz.prog 78=some [.int .i64 0,.int .i64 0,.int .i64 0,.int .i64 0]:=by kernel_rfl
theorem X4:FU Tryz.prog 78 0 0=true:=by kernel_rfl
theorem PH:FU Tryz.prog 78 3 3=true:=by kernel_rfl
theorem OH:TN Tryz.prog 111=some ([(0,1),(1,1),(2,1),(3,1)],[.int .i64 0,.int .i64 0,.int .i64 0,.nilFunc]):=by kernel_rfl
theorem eK:BT Tryz.prog 83=true:=by kernel_rfl
theorem LD:NF Tryz.prog 107=some (111,4,32,[.int .i64 0,.int .i64 0,.int .i64 0,.nilFunc]):=by kernel_rfl
theorem eS:BT Tryz.prog 62=true:=by kernel_rfl
theorem P6:BT Tryz.prog 104=true:=by kernel_rfl
theorem aC:BT Tryz.prog 106=true:=by kernel_rfl
theorem aD:BT Tryz.prog 105=true:=by kernel_rfl
theorem eE:BT Tryz.prog 97=true:=by kernel_rfl
theorem VN:EI Tryz.prog 29=some [.slice none 0 0]:=by kernel_rfl
theorem dP:iX Tryz.prog 29=true:=by kernel_rfl
theorem aA:BT Tryz.prog 108=true:=by kernel_rfl
theorem aF:BT Tryz.prog 101=true:=by kernel_rfl
theorem eG:BT Tryz.prog 90=true:=by kernel_rfl
theorem Y4:BT Tryz.prog 98=true:=by kernel_rfl
theorem eI:BT Tryz.prog 85=true:=by kernel_rfl
theorem S5:BT Tryz.prog 66=true:=by kernel_rfl
theorem Sy:BT Tryz.prog 89=true:=by kernel_rfl
theorem ZA:BT Tryz.prog 86=true:=by kernel_rfl
theorem eR:BT Tryz.prog 63=true:=by kernel_rfl
theorem Z2:NF Tryz.prog 139=some (107,1,24,[.slice none 0 0]):=by kernel_rfl
theorem RC:KW Tryz.prog 139 107 1=true:=by kernel_rfl
theorem Vd:IJ Tryz.prog 107 1 false=true:=by kernel_rfl
theorem Le:KW Tryz.prog 107 111 4=true:=by kernel_rfl
theorem iJ:Tryz.prog.underlying 3=some (.int .i64):=by kernel_rfl
theorem eL:BT Tryz.prog 82=true:=by kernel_rfl
theorem eT:BT Tryz.prog 61=true:=by kernel_rfl
theorem Wp:FU Tryz.prog 111 3 3=true:=by kernel_rfl
theorem Za:IJ Tryz.prog 109 1 false=true:=by kernel_rfl
theorem Py:FU Tryz.prog 111 0 0=true:=by kernel_rfl
theorem Wq:FU Tryz.prog 111 2 2=true:=by kernel_rfl
theorem aB:BT Tryz.prog 107=true:=by kernel_rfl
theorem aG:BT Tryz.prog 100=true:=by kernel_rfl
theorem eD:BT Tryz.prog 99=true:=by kernel_rfl
theorem Ra:FU Tryz.prog 84 5 25=true:=by kernel_rfl
theorem Wr:FU Tryz.prog 111 1 1=true:=by kernel_rfl
theorem eH:BT Tryz.prog 87=true:=by kernel_rfl
theorem TM:IJ Tryz.prog 111 4 true=true:=by kernel_rfl
theorem ZT:EI Tryz.prog 111=some [.int .i64 0,.int .i64 0,.int .i64 0,.nilFunc]:=by kernel_rfl
theorem W5:BT Tryz.prog 64=true:=by kernel_rfl
theorem eQ:BT Tryz.prog 65=true:=by kernel_rfl
theorem fL:BT Tryz.prog 34=true:=by kernel_rfl
theorem W8:BT Tryz.prog 11=true:=by kernel_rfl
theorem cG:TN Tryz.prog 78=some ([(0,1),(1,1),(2,1),(3,1)],[.int .i64 0,.int .i64 0,.int .i64 0,.int .i64 0]):=by kernel_rfl
theorem dW:NF Tryz.prog 39=some (78,4,32,[.int .i64 0,.int .i64 0,.int .i64 0,.int .i64 0]):=by kernel_rfl
theorem F9:KW Tryz.prog 45 50 5=true:=by kernel_rfl
theorem G1:FU Tryz.prog 50 3 3=true:=by kernel_rfl
theorem Ha:FU Tryz.prog 50 4 4=true:=by kernel_rfl
theorem IS:BT Tryz.prog 18=true:=by kernel_rfl
theorem ZH:BT Tryz.prog 35=true:=by kernel_rfl
theorem gB:BT Tryz.prog 12=true:=by kernel_rfl
theorem dU:Zz Tryz.prog 69=some [1,1,2,2]:=by kernel_rfl
theorem TA:BT Tryz.prog 41=true:=by kernel_rfl
theorem fJ:BT Tryz.prog 40=true:=by kernel_rfl
theorem fH:BT Tryz.prog 43=true:=by kernel_rfl
theorem fI:BT Tryz.prog 42=true:=by kernel_rfl
theorem fG:BT Tryz.prog 44=true:=by kernel_rfl
theorem W6:BT Tryz.prog 20=true:=by kernel_rfl
theorem iY:BT Tryz.prog 9=true:=by kernel_rfl
theorem fR:BT Tryz.prog 28=true:=by kernel_rfl
theorem gC:BT Tryz.prog 10=true:=by kernel_rfl
theorem Rh:FU Tryz.prog 50 2 2=true:=by kernel_rfl
theorem ZJ:BT Tryz.prog 13=true:=by kernel_rfl
theorem PP:FU Tryz.prog 50 1 1=true:=by kernel_rfl
theorem fY:BT Tryz.prog 17=true:=by kernel_rfl
theorem VX:IJ Tryz.prog 50 5 true=true:=by kernel_rfl
theorem bT:EI Tryz.prog 50=some [.int .i64 0,.int .i64 0,.int .i64 0,.int .i64 0,.slice none 0 0]:=by kernel_rfl
theorem YB:FU Tryz.prog 50 0 0=true:=by kernel_rfl
theorem fX:BT Tryz.prog 19=true:=by kernel_rfl
end Go.Proofs.YtblcgjadhemlbaaGreat
