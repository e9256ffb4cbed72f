import Derived.Test.YtibidnaedddfdaaGreatCReps
import Derived.Test.YtibidnaedddfdaaGreatRows
namespace Go.Proofs.YtibidnaedddfdaaGreat
set_option linter.unusedSimpArgs false
set_option linter.unusedVariables false
open Go.RowKit
theorem W3:Qe Tryz.prog 114=some ([(0,1),(1,1),(2,1),(3,1),(4,1),(5,1),(6,1)],[.string ByteArray.empty,.int .i64 0,.int .i64 0,.int .i64 0,.int .i64 0,.int .i64 0,.int .i64 0]):=by kernel_rfl
theorem Of:Cs Tryz.prog 114=some [.string ByteArray.empty,.int .i64 0,.int .i64 0,.int .i64 0,.int .i64 0,.int .i64 0,.int .i64 0]:=by kernel_rfl
theorem Iw:GI Tryz.prog 114 7 true=true:=by kernel_rfl
theorem LW:Qe Tryz.prog 64=some ([(0,1),(1,1)],[.int .i64 0,.bool false]):=by kernel_rfl
theorem XW:LR Tryz.prog 117=some (64,2,16,[.int .i64 0,.bool false]):=by kernel_rfl
theorem Qg:IC Tryz.prog 117 64 2=true:=by kernel_rfl
theorem Qv:LR Tryz.prog 115=some (119,3,24,[.int .i64 0,.int .i64 0,.int .i64 0]):=by kernel_rfl
theorem NG:Qe Tryz.prog 119=some ([(0,1),(1,1),(2,1)],[.int .i64 0,.int .i64 0,.int .i64 0]):=by kernel_rfl
theorem Sx:Cs Tryz.prog 119=some [.int .i64 0,.int .i64 0,.int .i64 0]:=by kernel_rfl
theorem Hw:GI Tryz.prog 119 3 true=true:=by kernel_rfl
theorem Kd:EF Tryz.prog 64 0 0=true:=by kernel_rfl
theorem AL:GI Tryz.prog 3 1 false=true:=by kernel_rfl
theorem Nb:EF Tryz.prog 114 3 3=true:=by kernel_rfl
theorem Vs:EF Tryz.prog 64 1 1=true:=by kernel_rfl
theorem ME:GI Tryz.prog 4 1 false=true:=by kernel_rfl
theorem MW:GI Tryz.prog 64 2 true=true:=by kernel_rfl
theorem Xh:Aj Tryz.prog 153=true:=by kernel_rfl
theorem KC:EF Tryz.prog 119 0 0=true:=by kernel_rfl
theorem Na:EF Tryz.prog 119 1 1=true:=by kernel_rfl
theorem UK:EF Tryz.prog 119 2 2=true:=by kernel_rfl
theorem WO:Cs Tryz.prog 64=some [.int .i64 0,.bool false]:=by kernel_rfl
theorem Xq:Aj Tryz.prog 118=true:=by kernel_rfl
theorem ZP:Aj Tryz.prog 55=true:=by kernel_rfl
theorem US:LR Tryz.prog 29=some (3,1,8,[.int .i64 0]):=by kernel_rfl
theorem F9:IC Tryz.prog 29 3 1=true:=by kernel_rfl
theorem mo:Tryz.prog.follows .mixedOrders=true:=by kernel_rfl
theorem Qh:IC Tryz.prog 115 119 3=true:=by kernel_rfl
theorem Zi:Aj Tryz.prog 15=true:=by kernel_rfl
theorem DW:EF Tryz.prog 31 3 3=true:=by kernel_rfl
theorem Ff:GI Tryz.prog 23 1 false=true:=by kernel_rfl
theorem E5:IC Tryz.prog 23 57 12=true:=by kernel_rfl
theorem FP:EF Tryz.prog 31 4 4=true:=by kernel_rfl
theorem Ho:GI Tryz.prog 24 1 false=true:=by kernel_rfl
theorem GO:IC Tryz.prog 24 102 18=true:=by kernel_rfl
theorem LZ:IC Tryz.prog 59 123 3=true:=by kernel_rfl
theorem LY:IC Tryz.prog 60 42 5=true:=by kernel_rfl
theorem Rs:EF Tryz.prog 42 1 1=true:=by kernel_rfl
theorem WT:GI Tryz.prog 37 1 false=true:=by kernel_rfl
theorem TS:IC Tryz.prog 37 171 2=true:=by kernel_rfl
theorem Rr:EF Tryz.prog 42 2 2=true:=by kernel_rfl
theorem WS:GI Tryz.prog 38 1 false=true:=by kernel_rfl
theorem TR:IC Tryz.prog 38 173 2=true:=by kernel_rfl
theorem Rq:EF Tryz.prog 42 3 3=true:=by kernel_rfl
theorem WR:GI Tryz.prog 39 1 false=true:=by kernel_rfl
theorem TQ:IC Tryz.prog 39 184 4=true:=by kernel_rfl
theorem Vw:EF Tryz.prog 42 4 4=true:=by kernel_rfl
theorem Yb:GI Tryz.prog 40 1 false=true:=by kernel_rfl
theorem Yf:IC Tryz.prog 40 260 4=true:=by kernel_rfl
theorem Vx:EF Tryz.prog 42 0 0=true:=by kernel_rfl
theorem PV:GI Tryz.prog 29 1 false=true:=by kernel_rfl
theorem F7:GI Tryz.prog 31 11 true=true:=by kernel_rfl
theorem Zh:Aj Tryz.prog 16=true:=by kernel_rfl
theorem P8:EF Tryz.prog 123 0 0=true:=by kernel_rfl
theorem Lw:EF Tryz.prog 123 1 1=true:=by kernel_rfl
theorem Lv:EF Tryz.prog 123 2 2=true:=by kernel_rfl
theorem Ok:GI Tryz.prog 121 1 false=true:=by kernel_rfl
theorem NI:IC Tryz.prog 121 32 1=true:=by kernel_rfl
theorem DE:EF Tryz.prog 51 0 0=true:=by kernel_rfl
theorem Cn:EF Tryz.prog 51 1 1=true:=by kernel_rfl
theorem Gn:GI Tryz.prog 32 1 false=true:=by kernel_rfl
theorem FM:IC Tryz.prog 32 51 2=true:=by kernel_rfl
theorem Ag:GI Tryz.prog 51 2 true=true:=by kernel_rfl
theorem Ee:Cs Tryz.prog 51=some [.int .i64 0,.int .i64 0]:=by kernel_rfl
theorem OX:Aj Tryz.prog 13=true:=by kernel_rfl
theorem ND:GI Tryz.prog 123 3 true=true:=by kernel_rfl
theorem ZO:Aj Tryz.prog 56=true:=by kernel_rfl
theorem Zg:Aj Tryz.prog 17=true:=by kernel_rfl
theorem O7:EF Tryz.prog 31 0 0=true:=by kernel_rfl
theorem N2:GI Tryz.prog 9 1 false=true:=by kernel_rfl
theorem N1:Tryz.prog.underlying 9=some .string:=by kernel_rfl
theorem M7:EF Tryz.prog 31 1 1=true:=by kernel_rfl
theorem RJ:GI Tryz.prog 22 1 false=true:=by kernel_rfl
theorem Pf:IC Tryz.prog 22 9 1=true:=by kernel_rfl
theorem Fx:Aj Tryz.prog 85=true:=by kernel_rfl
theorem O6:EF Tryz.prog 31 2 2=true:=by kernel_rfl
theorem JP:EF Tryz.prog 31 5 5=true:=by kernel_rfl
theorem NC:GI Tryz.prog 25 1 false=true:=by kernel_rfl
theorem La:IC Tryz.prog 25 114 7=true:=by kernel_rfl
theorem O5:EF Tryz.prog 31 6 6=true:=by kernel_rfl
theorem TD:GI Tryz.prog 26 1 false=true:=by kernel_rfl
theorem Pe:IC Tryz.prog 26 147 5=true:=by kernel_rfl
theorem O4:EF Tryz.prog 31 7 7=true:=by kernel_rfl
theorem TC:GI Tryz.prog 27 1 false=true:=by kernel_rfl
theorem Pd:IC Tryz.prog 27 160 7=true:=by kernel_rfl
theorem M6:EF Tryz.prog 31 8 8=true:=by kernel_rfl
theorem RI:GI Tryz.prog 28 1 false=true:=by kernel_rfl
theorem OF:IC Tryz.prog 28 158 2=true:=by kernel_rfl
theorem Ru:EF Tryz.prog 31 9 9=true:=by kernel_rfl
theorem T3:EF Tryz.prog 31 10 10=true:=by kernel_rfl
theorem HS:Aj Tryz.prog 86=true:=by kernel_rfl
theorem Wr:Cs Tryz.prog 154=some [.map none]:=by kernel_rfl
theorem TJ:GI Tryz.prog 154 1 false=true:=by kernel_rfl
theorem YQ:Cs Tryz.prog 4=some [.bool false]:=by kernel_rfl
theorem W1:Qe Tryz.prog 210=some ([(0,1),(1,1)],[.string ByteArray.empty,.string ByteArray.empty]):=by kernel_rfl
theorem Wk:Cs Tryz.prog 210=some [.string ByteArray.empty,.string ByteArray.empty]:=by kernel_rfl
theorem Qc:GI Tryz.prog 210 2 true=true:=by kernel_rfl
theorem Xl:Aj Tryz.prog 140=true:=by kernel_rfl
theorem TB:Tryz.prog.underlying 154=some (.map 210 4):=by kernel_rfl
theorem XQ:XS Tryz.prog 210=some [3,3]:=by kernel_rfl
theorem Rk:KQ Tryz.prog 210 (λk:AE=>Value.agg (AE.v k).toArray):=KQ.agg (f:=AE.v) Tryz.underlying210 XQ (λk=>rfl) (λa b=>rfl) (λk e w=>by kernel_rfl) (λa b h=>by
 simp only[AE.v,N0,VE,Bool.and_eq_true,PG,decide_eq_true_eq,beq_iff_eq] at h
 simp [AE.v,h]) (λa=>by simp [Instr.sameBits,AE.v,PG.2])
theorem Zy:∀w,(zeroValue 4).run Tryz.prog w= .ok (.bool false) w:=λw=>by kernel_rfl
theorem ZL:Aj Tryz.prog 88=true:=by kernel_rfl
theorem Nn:Aj Tryz.prog 87=true:=by kernel_rfl
theorem Im:GI Tryz.prog 57 12 true=true:=by kernel_rfl
theorem OB:Cs Tryz.prog 57=some [.string ByteArray.empty,.int .i64 0,.int .i64 0,.int .i64 0,.slice none 0 0,.slice none 0 0,.int .i64 0,.int .i64 0,.int .i64 0,.int .i64 0,.int .i64 0,.slice none 0 0]:=by kernel_rfl
theorem Vv:EF Tryz.prog 57 0 0=true:=by kernel_rfl
theorem Du:GI Tryz.prog 102 18 true=true:=by kernel_rfl
theorem K8:Cs Tryz.prog 102=some [.string ByteArray.empty,.int .i64 0,.int .i64 0,.int .i64 0,.slice none 0 0,.slice none 0 0,.slice none 0 0,.int .i64 0,.int .i64 0,.int .i64 0,.int .i64 0,.int .i64 0,.int .i64 0,.int .i64 0,.int .i64 0,.int .i64 0,.int .i64 0,.int .i64 0]:=by kernel_rfl
theorem UP:EF Tryz.prog 102 0 0=true:=by kernel_rfl
theorem UO:EF Tryz.prog 114 0 0=true:=by kernel_rfl
theorem Oi:GI Tryz.prog 158 2 true=true:=by kernel_rfl
theorem Sv:Cs Tryz.prog 158=some [.string ByteArray.empty,.int .i64 0]:=by kernel_rfl
theorem UF:EF Tryz.prog 158 0 0=true:=by kernel_rfl
theorem Oj:GI Tryz.prog 147 5 true=true:=by kernel_rfl
theorem Sw:Cs Tryz.prog 147=some [.string ByteArray.empty,.int .i64 0,.int .i64 0,.int .i64 0,.int .i64 0]:=by kernel_rfl
theorem UJ:EF Tryz.prog 147 0 0=true:=by kernel_rfl
theorem Oh:GI Tryz.prog 160 7 true=true:=by kernel_rfl
theorem Su:Cs Tryz.prog 160=some [.string ByteArray.empty,.int .i64 0,.int .i64 0,.int .i64 0,.int .i64 0,.int .i64 0,.int .i64 0]:=by kernel_rfl
theorem UD:EF Tryz.prog 160 0 0=true:=by kernel_rfl
theorem F8:IC Tryz.prog 54 90 2=true:=by kernel_rfl
theorem MV:GI Tryz.prog 90 2 true=true:=by kernel_rfl
theorem RG:Cs Tryz.prog 90=some [.int .i64 0,.int .i64 0]:=by kernel_rfl
theorem Gu:EF Tryz.prog 90 0 0=true:=by kernel_rfl
theorem GP:EF Tryz.prog 90 1 1=true:=by kernel_rfl
theorem Nl:Aj Tryz.prog 92=true:=by kernel_rfl
theorem Vu:EF Tryz.prog 57 1 1=true:=by kernel_rfl
theorem JO:EF Tryz.prog 57 2 2=true:=by kernel_rfl
theorem O2:EF Tryz.prog 57 9 9=true:=by kernel_rfl
theorem Ls:EF Tryz.prog 57 3 3=true:=by kernel_rfl
theorem T1:EF Tryz.prog 57 10 10=true:=by kernel_rfl
theorem Vt:EF Tryz.prog 57 4 4=true:=by kernel_rfl
theorem GN:GI Tryz.prog 54 1 false=true:=by kernel_rfl
theorem Nm:Aj Tryz.prog 89=true:=by kernel_rfl
theorem Rp:EF Tryz.prog 57 5 5=true:=by kernel_rfl
theorem O3:EF Tryz.prog 57 6 6=true:=by kernel_rfl
theorem Ip:EF Tryz.prog 57 7 7=true:=by kernel_rfl
theorem Ua:Aj Tryz.prog 90=true:=by kernel_rfl
theorem M5:EF Tryz.prog 57 8 8=true:=by kernel_rfl
theorem Wg:Aj Tryz.prog 91=true:=by kernel_rfl
theorem T0:EF Tryz.prog 57 11 11=true:=by kernel_rfl
theorem YZ:GI Tryz.prog 55 1 false=true:=by kernel_rfl
theorem WW:IC Tryz.prog 55 164 2=true:=by kernel_rfl
theorem TI:GI Tryz.prog 164 2 true=true:=by kernel_rfl
theorem Wq:Cs Tryz.prog 164=some [.int .i64 0,.int .i64 0]:=by kernel_rfl
theorem NY:EF Tryz.prog 164 0 0=true:=by kernel_rfl
theorem UA:EF Tryz.prog 164 1 1=true:=by kernel_rfl
theorem Do:EF Tryz.prog 102 1 1=true:=by kernel_rfl
theorem LA:Tryz.prog.underlying 3=some (.int .i64):=by kernel_rfl
theorem NB:Tryz.prog.underlying 230=some (.int .u64):=by kernel_rfl
theorem Xb:Aj Tryz.prog 183=true:=by kernel_rfl
theorem Xg:Aj Tryz.prog 165=true:=by kernel_rfl
theorem Iv:Tryz.prog.underlying 213=some (.int .u64):=by kernel_rfl
theorem Uj:Aj Tryz.prog 142=true:=by kernel_rfl
theorem YY:Tryz.prog.underlying 5=some (.int .u8):=by kernel_rfl
theorem Xa:Aj Tryz.prog 184=true:=by kernel_rfl
theorem Xf:Aj Tryz.prog 171=true:=by kernel_rfl
theorem Ui:Aj Tryz.prog 143=true:=by kernel_rfl
theorem PD:Aj Tryz.prog 152=true:=by kernel_rfl
theorem Q3:Aj Tryz.prog 170=true:=by kernel_rfl
theorem KD:EF Tryz.prog 102 4 4=true:=by kernel_rfl
theorem Gq:EF Tryz.prog 102 5 5=true:=by kernel_rfl
theorem KF:EF Tryz.prog 100 0 0=true:=by kernel_rfl
theorem KE:EF Tryz.prog 100 1 1=true:=by kernel_rfl
theorem Uk:Aj Tryz.prog 141=true:=by kernel_rfl
theorem GA:EF Tryz.prog 102 6 7=true:=by kernel_rfl
theorem IQ:EF Tryz.prog 102 7 8=true:=by kernel_rfl
theorem Nd:EF Tryz.prog 102 8 9=true:=by kernel_rfl
theorem HX:EF Tryz.prog 102 14 15=true:=by kernel_rfl
theorem G9:EF Tryz.prog 102 15 16=true:=by kernel_rfl
theorem E6:EF Tryz.prog 102 3 3=true:=by kernel_rfl
theorem Nc:EF Tryz.prog 102 9 10=true:=by kernel_rfl
theorem Fm:EF Tryz.prog 102 10 11=true:=by kernel_rfl
theorem Gh:EF Tryz.prog 102 11 12=true:=by kernel_rfl
theorem Kh:EF Tryz.prog 102 12 13=true:=by kernel_rfl
theorem HY:EF Tryz.prog 102 13 14=true:=by kernel_rfl
theorem GV:EF Tryz.prog 102 2 2=true:=by kernel_rfl
theorem Kg:EF Tryz.prog 102 16 17=true:=by kernel_rfl
theorem ZK:Aj Tryz.prog 93=true:=by kernel_rfl
theorem ZJ:Aj Tryz.prog 94=true:=by kernel_rfl
theorem Wf:Aj Tryz.prog 95=true:=by kernel_rfl
theorem OW:Aj Tryz.prog 96=true:=by kernel_rfl
theorem TT:IC Tryz.prog 217 54 1=true:=by kernel_rfl
theorem XV:LR Tryz.prog 217=some (54,1,24,[.slice none 0 0]):=by kernel_rfl
theorem ZI:Aj Tryz.prog 97=true:=by kernel_rfl
theorem Lx:EF Tryz.prog 114 1 1=true:=by kernel_rfl
theorem P9:EF Tryz.prog 114 2 2=true:=by kernel_rfl
theorem UN:EF Tryz.prog 114 4 4=true:=by kernel_rfl
theorem UM:EF Tryz.prog 114 5 5=true:=by kernel_rfl
theorem UL:EF Tryz.prog 114 6 6=true:=by kernel_rfl
theorem UE:EF Tryz.prog 158 1 1=true:=by kernel_rfl
theorem P7:EF Tryz.prog 147 1 1=true:=by kernel_rfl
theorem UH:EF Tryz.prog 147 3 3=true:=by kernel_rfl
theorem UG:EF Tryz.prog 147 4 4=true:=by kernel_rfl
theorem X3:Zw Tryz.prog 167=some ([(0,1),(1,1),(2,1)],[.int .i64 0,.int .i64 0,.int .i64 0]):=by kernel_rfl
theorem Wp:Cs Tryz.prog 167=some [.int .i64 0,.int .i64 0,.int .i64 0]:=by kernel_rfl
theorem Wx:GI Tryz.prog 167 3 true=true:=by kernel_rfl
theorem UI:EF Tryz.prog 147 2 2=true:=by kernel_rfl
theorem X2:aK Tryz.prog 167 3 1=true:=by kernel_rfl
theorem P6:EF Tryz.prog 160 1 1=true:=by kernel_rfl
theorem P5:EF Tryz.prog 160 2 2=true:=by kernel_rfl
theorem UC:EF Tryz.prog 160 3 3=true:=by kernel_rfl
theorem UB:EF Tryz.prog 160 4 4=true:=by kernel_rfl
theorem P4:EF Tryz.prog 160 6 6=true:=by kernel_rfl
theorem NZ:EF Tryz.prog 160 5 5=true:=by kernel_rfl
theorem Zf:Aj Tryz.prog 36=true:=by kernel_rfl
theorem Ze:Aj Tryz.prog 37=true:=by kernel_rfl
theorem Zd:Aj Tryz.prog 38=true:=by kernel_rfl
theorem Zc:Aj Tryz.prog 39=true:=by kernel_rfl
theorem Zb:Aj Tryz.prog 40=true:=by kernel_rfl
theorem Za:Aj Tryz.prog 41=true:=by kernel_rfl
theorem ZZ:Aj Tryz.prog 42=true:=by kernel_rfl
theorem ZY:Aj Tryz.prog 43=true:=by kernel_rfl
theorem ZX:Aj Tryz.prog 44=true:=by kernel_rfl
theorem Iq:EF Tryz.prog 36 0 0=true:=by kernel_rfl
theorem Kf:EF Tryz.prog 36 1 1=true:=by kernel_rfl
theorem Gv:EF Tryz.prog 36 3 3=true:=by kernel_rfl
theorem JZ:GI Tryz.prog 34 1 false=true:=by kernel_rfl
theorem J2:IC Tryz.prog 34 97 5=true:=by kernel_rfl
theorem HD:Qe Tryz.prog 51=some ([(0,1),(1,1)],[.int .i64 0,.int .i64 0]):=by kernel_rfl
theorem Uc:Aj Tryz.prog 54=true:=by kernel_rfl
theorem Px:XS Tryz.prog 51=some [1,1]:=by kernel_rfl
theorem Ul:Aj Tryz.prog 14=true:=by kernel_rfl
theorem Ke:EF Tryz.prog 36 2 2=true:=by kernel_rfl
theorem OE:GI Tryz.prog 33 1 false=true:=by kernel_rfl
theorem Fc:IC Tryz.prog 33 93 4=true:=by kernel_rfl
theorem Uh:Aj Tryz.prog 144=true:=by kernel_rfl
theorem M4:EF Tryz.prog 93 0 0=true:=by kernel_rfl
theorem We:Aj Tryz.prog 99=true:=by kernel_rfl
theorem Lr:EF Tryz.prog 93 1 1=true:=by kernel_rfl
theorem ZH:Aj Tryz.prog 98=true:=by kernel_rfl
theorem Jz:GI Tryz.prog 93 4 true=true:=by kernel_rfl
theorem WN:Cs Tryz.prog 93=some [.int .i64 0,.int .i64 0,.int .i64 0,.int .i64 0]:=by kernel_rfl
theorem Kc:EF Tryz.prog 93 2 2=true:=by kernel_rfl
theorem QL:Aj Tryz.prog 45=true:=by kernel_rfl
theorem Wh:Aj Tryz.prog 46=true:=by kernel_rfl
theorem Hh:EF Tryz.prog 97 0 0=true:=by kernel_rfl
theorem M3:EF Tryz.prog 97 1 2=true:=by kernel_rfl
theorem Ub:Aj Tryz.prog 73=true:=by kernel_rfl
theorem K0:Aj Tryz.prog 66=true:=by kernel_rfl
theorem Hg:EF Tryz.prog 97 2 3=true:=by kernel_rfl
theorem Gj:GI Tryz.prog 97 5 true=true:=by kernel_rfl
theorem RE:Cs Tryz.prog 97=some [.int .i64 0,.int .i64 0,.int .i64 0,.int .i64 0,.int .i64 0]:=by kernel_rfl
theorem ZW:Aj Tryz.prog 47=true:=by kernel_rfl
theorem Zl:Aj Tryz.prog 10=true:=by kernel_rfl
theorem H6:GI Tryz.prog 36 4 true=true:=by kernel_rfl
theorem Zk:Aj Tryz.prog 11=true:=by kernel_rfl
theorem ZE:LR Tryz.prog 43=some (4,1,1,[.bool false]):=by kernel_rfl
theorem W2:Qe Tryz.prog 123=some ([(0,1),(1,1),(2,1)],[.int .i64 0,.int .i64 0,.slice none 0 0]):=by kernel_rfl
theorem ZD:LR Tryz.prog 59=some (123,3,40,[.int .i64 0,.int .i64 0,.slice none 0 0]):=by kernel_rfl
theorem VI:Cs Tryz.prog 3=some [.int .i64 0]:=by kernel_rfl
theorem Ss:Cs Tryz.prog 36=some [.int .i64 0,.slice none 0 0,.slice none 0 0,.slice none 0 0]:=by kernel_rfl
theorem QC:LR Tryz.prog 32=some (51,2,16,[.int .i64 0,.int .i64 0]):=by kernel_rfl
theorem S7:∃e,Tryz.prog.underlying 32=some (.slice e):=⟨51,by kernel_rfl⟩
theorem ZV:Aj Tryz.prog 48=true:=by kernel_rfl
theorem S3:∃e,Tryz.prog.underlying 34=some (.slice e):=⟨97,by kernel_rfl⟩
theorem Wb:LR Tryz.prog 34=some (97,5,40,[.int .i64 0,.int .i64 0,.int .i64 0,.int .i64 0,.int .i64 0]):=by kernel_rfl
theorem ZU:Aj Tryz.prog 49=true:=by kernel_rfl
theorem W4:Qe Tryz.prog 106=some ([(0,11),(11,4),(15,1)],[.string ByteArray.empty,.slice none 0 0,.int .i64 0,.slice none 0 0,.slice none 0 0,.slice none 0 0,.slice none 0 0,.slice none 0 0,.slice none 0 0,.slice none 0 0,.int .i64 0,.int .i64 0,.slice none 0 0,.slice none 0 0,.slice none 0 0,.slice none 0 0]):=by kernel_rfl
theorem Wt:Cs Tryz.prog 106=some [.string ByteArray.empty,.slice none 0 0,.int .i64 0,.slice none 0 0,.slice none 0 0,.slice none 0 0,.slice none 0 0,.slice none 0 0,.slice none 0 0,.slice none 0 0,.int .i64 0,.int .i64 0,.slice none 0 0,.slice none 0 0,.slice none 0 0,.slice none 0 0]:=by kernel_rfl
theorem Wy:GI Tryz.prog 106 16 true=true:=by kernel_rfl
theorem TH:GI Tryz.prog 171 2 true=true:=by kernel_rfl
theorem Wo:Cs Tryz.prog 171=some [.int .i64 0,.int .i64 0]:=by kernel_rfl
theorem Lu:EF Tryz.prog 171 1 1=true:=by kernel_rfl
theorem Fl:EF Tryz.prog 106 0 0=true:=by kernel_rfl
theorem T9:EF Tryz.prog 171 0 0=true:=by kernel_rfl
theorem EE:EF Tryz.prog 106 1 11=true:=by kernel_rfl
theorem Sr:Cs Tryz.prog 81=some [.int .i64 0,.int .i64 0,.bool false,.bool false]:=by kernel_rfl
theorem PE:Aj Tryz.prog 145=true:=by kernel_rfl
theorem Ro:EF Tryz.prog 81 1 1=true:=by kernel_rfl
theorem IL:GI Tryz.prog 81 4 true=true:=by kernel_rfl
theorem TG:GI Tryz.prog 173 2 true=true:=by kernel_rfl
theorem Wn:Cs Tryz.prog 173=some [.int .i64 0,.int .i64 0]:=by kernel_rfl
theorem NX:EF Tryz.prog 173 0 0=true:=by kernel_rfl
theorem TP:Qe Tryz.prog 81=some ([(0,1),(1,1),(2,1),(3,1)],[.int .i64 0,.int .i64 0,.bool false,.bool false]):=by kernel_rfl
theorem T8:EF Tryz.prog 173 1 1=true:=by kernel_rfl
theorem X0:Aj Tryz.prog 100=true:=by kernel_rfl
theorem Vp:YM Tryz.prog 81 1 1 3 1 false=true:=by kernel_rfl
theorem Vr:EF Tryz.prog 81 2 2=true:=by kernel_rfl
theorem O1:EF Tryz.prog 81 0 0=true:=by kernel_rfl
theorem H0:Aj Tryz.prog 106=true:=by kernel_rfl
theorem Mh:Aj Tryz.prog 60=true:=by kernel_rfl
theorem Xk:Aj Tryz.prog 147=true:=by kernel_rfl
theorem Vq:YM Tryz.prog 81 0 0 3 1 false=true:=by kernel_rfl
theorem Ug:Aj Tryz.prog 146=true:=by kernel_rfl
theorem WX:IC Tryz.prog 43 4 1=true:=by kernel_rfl
theorem Xz:Aj Tryz.prog 101=true:=by kernel_rfl
theorem PU:GI Tryz.prog 42 5 true=true:=by kernel_rfl
theorem ZT:Aj Tryz.prog 50=true:=by kernel_rfl
theorem Q5:Aj Tryz.prog 102=true:=by kernel_rfl
theorem Fk:EF Tryz.prog 106 2 15=true:=by kernel_rfl
theorem QB:LR Tryz.prog 33=some (93,4,32,[.int .i64 0,.int .i64 0,.int .i64 0,.int .i64 0]):=by kernel_rfl
theorem Q4:Aj Tryz.prog 103=true:=by kernel_rfl
theorem Xj:Aj Tryz.prog 148=true:=by kernel_rfl
theorem Rn:EF Tryz.prog 81 3 3=true:=by kernel_rfl
theorem Xe:Aj Tryz.prog 172=true:=by kernel_rfl
theorem Xi:Aj Tryz.prog 149=true:=by kernel_rfl
theorem Vo:YM Tryz.prog 81 3 3 4 1 false=true:=by kernel_rfl
theorem Xy:Aj Tryz.prog 104=true:=by kernel_rfl
theorem ZS:Aj Tryz.prog 51=true:=by kernel_rfl
theorem P1:EF Tryz.prog 184 2 2=true:=by kernel_rfl
theorem TE:GI Tryz.prog 184 4 true=true:=by kernel_rfl
theorem Wl:Cs Tryz.prog 184=some [.int .i64 0,.int .i64 0,.int .i64 0,.int .i64 0]:=by kernel_rfl
theorem T5:EF Tryz.prog 184 0 0=true:=by kernel_rfl
theorem T4:EF Tryz.prog 184 1 1=true:=by kernel_rfl
theorem Lt:EF Tryz.prog 184 3 3=true:=by kernel_rfl
theorem NF:Qe Tryz.prog 181=some ([(0,1),(1,1),(2,1),(3,1)],[.int .i64 0,.int .i64 0,.int .i64 0,.nilFunc]):=by kernel_rfl
theorem Xx:Aj Tryz.prog 108=true:=by kernel_rfl
theorem I0:LR Tryz.prog 110=some (181,4,32,[.int .i64 0,.int .i64 0,.int .i64 0,.nilFunc]):=by kernel_rfl
theorem No:Aj Tryz.prog 173=true:=by kernel_rfl
theorem Xc:Aj Tryz.prog 175=true:=by kernel_rfl
theorem Xd:Aj Tryz.prog 174=true:=by kernel_rfl
theorem Uf:Aj Tryz.prog 150=true:=by kernel_rfl
theorem Xv:Aj Tryz.prog 110=true:=by kernel_rfl
theorem Ud:Aj Tryz.prog 176=true:=by kernel_rfl
theorem Ue:Aj Tryz.prog 151=true:=by kernel_rfl
theorem Un:Aj Tryz.prog 113=true:=by kernel_rfl
theorem Uo:Aj Tryz.prog 112=true:=by kernel_rfl
theorem Xs:Aj Tryz.prog 115=true:=by kernel_rfl
theorem Xw:Aj Tryz.prog 109=true:=by kernel_rfl
theorem Xu:Aj Tryz.prog 111=true:=by kernel_rfl
theorem Xt:Aj Tryz.prog 114=true:=by kernel_rfl
theorem Um:Aj Tryz.prog 117=true:=by kernel_rfl
theorem Xr:Aj Tryz.prog 116=true:=by kernel_rfl
theorem TU:IC Tryz.prog 110 181 4=true:=by kernel_rfl
theorem WU:Qe Tryz.prog 93=some ([(0,1),(1,1),(2,2)],[.int .i64 0,.int .i64 0,.int .i64 0,.int .i64 0]):=by kernel_rfl
theorem Xn:Aj Tryz.prog 124=true:=by kernel_rfl
theorem Xm:Aj Tryz.prog 125=true:=by kernel_rfl
theorem ZM:Aj Tryz.prog 67=true:=by kernel_rfl
theorem TF:GI Tryz.prog 181 4 true=true:=by kernel_rfl
theorem Wm:Cs Tryz.prog 181=some [.int .i64 0,.int .i64 0,.int .i64 0,.nilFunc]:=by kernel_rfl
theorem P2:EF Tryz.prog 181 3 3=true:=by kernel_rfl
theorem TK:GI Tryz.prog 133 1 false=true:=by kernel_rfl
theorem Uq:Aj Tryz.prog 105=true:=by kernel_rfl
theorem T7:EF Tryz.prog 181 0 0=true:=by kernel_rfl
theorem T6:EF Tryz.prog 181 1 1=true:=by kernel_rfl
theorem Up:Aj Tryz.prog 107=true:=by kernel_rfl
theorem P3:EF Tryz.prog 181 2 2=true:=by kernel_rfl
theorem ZQ:Aj Tryz.prog 53=true:=by kernel_rfl
theorem ZR:Aj Tryz.prog 52=true:=by kernel_rfl
theorem Yc:Qe Tryz.prog 42=some ([(0,1),(1,1),(2,1),(3,1),(4,1)],[.slice none 0 0,.slice none 0 0,.slice none 0 0,.slice none 0 0,.slice none 0 0]):=by kernel_rfl
theorem YP:Cs Tryz.prog 42=some [.slice none 0 0,.slice none 0 0,.slice none 0 0,.slice none 0 0,.slice none 0 0]:=by kernel_rfl
theorem WQ:GI Tryz.prog 60 1 false=true:=by kernel_rfl
theorem Ya:GI Tryz.prog 43 1 false=true:=by kernel_rfl
theorem Xo:Aj Tryz.prog 120=true:=by kernel_rfl
theorem Zj:Aj Tryz.prog 12=true:=by kernel_rfl
theorem Ws:Cs Tryz.prog 123=some [.int .i64 0,.int .i64 0,.slice none 0 0]:=by kernel_rfl
theorem ZN:Aj Tryz.prog 57=true:=by kernel_rfl
theorem Xp:Aj Tryz.prog 119=true:=by kernel_rfl
theorem R3:Aj Tryz.prog 18=true:=by kernel_rfl
theorem M2:YM Tryz.prog 64 0 0 3 1 false=true:=by kernel_rfl
theorem Z4:Tryz.prog.underlying 3=some (.int .i64):=by kernel_rfl
end Go.Proofs.YtibidnaedddfdaaGreat
