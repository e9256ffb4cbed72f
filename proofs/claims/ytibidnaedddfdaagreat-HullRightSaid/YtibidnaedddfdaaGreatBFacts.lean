import Derived.Test.YtibidnaedddfdaaGreatBReps
import Derived.Test.YtibidnaedddfdaaGreatRows
namespace Go.Proofs.YtibidnaedddfdaaGreat
set_option linter.unusedSimpArgs false
set_option linter.unusedVariables false
open Go.RowKit
theorem Xz:PH Tryz.prog 90=some ([(0,1),(1,1)],[.int .i64 0,.int .i64 0]):=by kernel_rfl
theorem Yi:LO Tryz.prog 54=some (90,2,16,[.int .i64 0,.int .i64 0]):=by kernel_rfl
theorem Lw:LO Tryz.prog 29=some (3,1,8,[.int .i64 0]):=by kernel_rfl
theorem X1:PH Tryz.prog 57=some ([(0,1),(1,1),(2,1),(3,1),(4,1),(5,1),(6,1),(7,1),(8,1),(9,1),(10,1),(11,1)],[.string ByteArray.empty,.int .i64 0,.int .i64 0,.int .i64 0,.slice none 0 0,.slice none 0 0,.int .i64 0,.int .i64 0,.int .i64 0,.int .i64 0,.int .i64 0,.slice none 0 0]):=by kernel_rfl
theorem MW:C1 Tryz.prog 57=some [.string ByteArray.empty,.int .i64 0,.int .i64 0,.int .i64 0,.slice none 0 0,.slice none 0 0,.int .i64 0,.int .i64 0,.int .i64 0,.int .i64 0,.int .i64 0,.slice none 0 0]:=by kernel_rfl
theorem HS:GA Tryz.prog 57 12 true=true:=by kernel_rfl
theorem Yk:LO Tryz.prog 22=some (9,1,16,[.string ByteArray.empty]):=by kernel_rfl
theorem Yj:LO Tryz.prog 23=some (57,12,152,[.string ByteArray.empty,.int .i64 0,.int .i64 0,.int .i64 0,.slice none 0 0,.slice none 0 0,.int .i64 0,.int .i64 0,.int .i64 0,.int .i64 0,.int .i64 0,.slice none 0 0]):=by kernel_rfl
theorem X3:PH Tryz.prog 31=some ([(0,1),(1,1),(2,1),(3,1),(4,1),(5,1),(6,1),(7,1),(8,1),(9,1),(10,1)],[.string ByteArray.empty,.slice none 0 0,.int .i64 0,.slice none 0 0,.slice none 0 0,.slice none 0 0,.slice none 0 0,.slice none 0 0,.slice none 0 0,.slice none 0 0,.int .i64 0]):=by kernel_rfl
theorem Xo:C1 Tryz.prog 31=some [.string ByteArray.empty,.slice none 0 0,.int .i64 0,.slice none 0 0,.slice none 0 0,.slice none 0 0,.slice none 0 0,.slice none 0 0,.slice none 0 0,.slice none 0 0,.int .i64 0]:=by kernel_rfl
theorem ET:GA Tryz.prog 31 11 true=true:=by kernel_rfl
theorem GH:PH Tryz.prog 51=some ([(0,1),(1,1)],[.int .i64 0,.int .i64 0]):=by kernel_rfl
theorem Na:LO Tryz.prog 32=some (51,2,16,[.int .i64 0,.int .i64 0]):=by kernel_rfl
theorem V2:PH Tryz.prog 36=some ([(0,1),(1,1),(2,1),(3,1)],[.int .i64 0,.slice none 0 0,.slice none 0 0,.slice none 0 0]):=by kernel_rfl
theorem N0:C1 Tryz.prog 36=some [.int .i64 0,.slice none 0 0,.slice none 0 0,.slice none 0 0]:=by kernel_rfl
theorem FG:GA Tryz.prog 36 4 true=true:=by kernel_rfl
theorem X2:PH Tryz.prog 42=some ([(0,1),(1,1),(2,1),(3,1),(4,1)],[.slice none 0 0,.slice none 0 0,.slice none 0 0,.slice none 0 0,.slice none 0 0]):=by kernel_rfl
theorem FV:D6 Tryz.prog 36 1 1=true:=by kernel_rfl
theorem FH:GA Tryz.prog 32 1 false=true:=by kernel_rfl
theorem Sk:∃e,Tryz.prog.underlying 32=some (.slice e):=⟨51,by kernel_rfl⟩
theorem Yz:Ar Tryz.prog 48=true:=by kernel_rfl
theorem FJ:D6 Tryz.prog 36 3 3=true:=by kernel_rfl
theorem Hp:GA Tryz.prog 34 1 false=true:=by kernel_rfl
theorem Sj:∃e,Tryz.prog.underlying 34=some (.slice e):=⟨97,by kernel_rfl⟩
theorem Rk:LO Tryz.prog 34=some (97,5,40,[.int .i64 0,.int .i64 0,.int .i64 0,.int .i64 0,.int .i64 0]):=by kernel_rfl
theorem Yy:Ar Tryz.prog 49=true:=by kernel_rfl
theorem mo:Tryz.prog.follows .mixedOrders=true:=by kernel_rfl
theorem CX:D6 Tryz.prog 31 3 3=true:=by kernel_rfl
theorem Ec:GA Tryz.prog 23 1 false=true:=by kernel_rfl
theorem D8:I0 Tryz.prog 23 57 12=true:=by kernel_rfl
theorem We:PH Tryz.prog 106=some ([(0,11),(11,4),(15,1)],[.string ByteArray.empty,.slice none 0 0,.int .i64 0,.slice none 0 0,.slice none 0 0,.slice none 0 0,.slice none 0 0,.slice none 0 0,.slice none 0 0,.slice none 0 0,.int .i64 0,.int .i64 0,.slice none 0 0,.slice none 0 0,.slice none 0 0,.slice none 0 0]):=by kernel_rfl
theorem WU:C1 Tryz.prog 106=some [.string ByteArray.empty,.slice none 0 0,.int .i64 0,.slice none 0 0,.slice none 0 0,.slice none 0 0,.slice none 0 0,.slice none 0 0,.slice none 0 0,.slice none 0 0,.int .i64 0,.int .i64 0,.slice none 0 0,.slice none 0 0,.slice none 0 0,.slice none 0 0]:=by kernel_rfl
theorem WZ:GA Tryz.prog 106 16 true=true:=by kernel_rfl
theorem Rg:D6 Tryz.prog 42 1 1=true:=by kernel_rfl
theorem V0:GA Tryz.prog 37 1 false=true:=by kernel_rfl
theorem TM:I0 Tryz.prog 37 171 2=true:=by kernel_rfl
theorem EH:C1 Tryz.prog 51=some [.int .i64 0,.int .i64 0]:=by kernel_rfl
theorem Ad:GA Tryz.prog 51 2 true=true:=by kernel_rfl
theorem Sz:GA Tryz.prog 171 2 true=true:=by kernel_rfl
theorem WQ:C1 Tryz.prog 171=some [.int .i64 0,.int .i64 0]:=by kernel_rfl
theorem Lv:D6 Tryz.prog 171 1 1=true:=by kernel_rfl
theorem AM:GA Tryz.prog 3 1 false=true:=by kernel_rfl
theorem FZ:D6 Tryz.prog 106 0 0=true:=by kernel_rfl
theorem Ez:D6 Tryz.prog 31 4 4=true:=by kernel_rfl
theorem HT:GA Tryz.prog 24 1 false=true:=by kernel_rfl
theorem Fx:I0 Tryz.prog 24 102 18=true:=by kernel_rfl
theorem QB:Ar Tryz.prog 45=true:=by kernel_rfl
theorem Di:D6 Tryz.prog 102 1 1=true:=by kernel_rfl
theorem T3:D6 Tryz.prog 171 0 0=true:=by kernel_rfl
theorem D1:D6 Tryz.prog 106 1 11=true:=by kernel_rfl
theorem It:Ar Tryz.prog 66=true:=by kernel_rfl
theorem IN:I0 Tryz.prog 34 97 5=true:=by kernel_rfl
theorem HE:D6 Tryz.prog 97 2 3=true:=by kernel_rfl
theorem Rf:D6 Tryz.prog 42 2 2=true:=by kernel_rfl
theorem Vz:GA Tryz.prog 38 1 false=true:=by kernel_rfl
theorem TL:I0 Tryz.prog 38 173 2=true:=by kernel_rfl
theorem PM:C1 Tryz.prog 81=some [.int .i64 0,.int .i64 0,.bool false,.bool false]:=by kernel_rfl
theorem Fy:D6 Tryz.prog 102 6 7=true:=by kernel_rfl
theorem O4:Ar Tryz.prog 145=true:=by kernel_rfl
theorem Om:D6 Tryz.prog 81 1 1=true:=by kernel_rfl
theorem HC:GA Tryz.prog 81 4 true=true:=by kernel_rfl
theorem Sy:GA Tryz.prog 173 2 true=true:=by kernel_rfl
theorem WP:C1 Tryz.prog 173=some [.int .i64 0,.int .i64 0]:=by kernel_rfl
theorem NT:D6 Tryz.prog 173 0 0=true:=by kernel_rfl
theorem Dk:GA Tryz.prog 102 18 true=true:=by kernel_rfl
theorem M2:D6 Tryz.prog 97 1 2=true:=by kernel_rfl
theorem TG:PH Tryz.prog 81=some ([(0,1),(1,1),(2,1),(3,1)],[.int .i64 0,.int .i64 0,.bool false,.bool false]):=by kernel_rfl
theorem T1:D6 Tryz.prog 173 1 1=true:=by kernel_rfl
theorem XT:Ar Tryz.prog 100=true:=by kernel_rfl
theorem VZ:Yf Tryz.prog 81 1 1 3 1 false=true:=by kernel_rfl
theorem PL:C1 Tryz.prog 97=some [.int .i64 0,.int .i64 0,.int .i64 0,.int .i64 0,.int .i64 0]:=by kernel_rfl
theorem Vb:D6 Tryz.prog 81 2 2=true:=by kernel_rfl
theorem LV:GA Tryz.prog 4 1 false=true:=by kernel_rfl
theorem Ls:D6 Tryz.prog 81 0 0=true:=by kernel_rfl
theorem Hg:Ar Tryz.prog 106=true:=by kernel_rfl
theorem IS:D6 Tryz.prog 102 7 8=true:=by kernel_rfl
theorem Jk:Ar Tryz.prog 60=true:=by kernel_rfl
theorem XG:Ar Tryz.prog 147=true:=by kernel_rfl
theorem Va:Yf Tryz.prog 81 0 0 3 1 false=true:=by kernel_rfl
theorem HF:D6 Tryz.prog 97 0 0=true:=by kernel_rfl
theorem DD:D6 Tryz.prog 51 0 0=true:=by kernel_rfl
theorem Uc:Ar Tryz.prog 146=true:=by kernel_rfl
theorem CW:D6 Tryz.prog 51 1 1=true:=by kernel_rfl
theorem GF:GA Tryz.prog 97 5 true=true:=by kernel_rfl
theorem LE:C1 Tryz.prog 102=some [.string ByteArray.empty,.int .i64 0,.int .i64 0,.int .i64 0,.slice none 0 0,.slice none 0 0,.slice none 0 0,.int .i64 0,.int .i64 0,.int .i64 0,.int .i64 0,.int .i64 0,.int .i64 0,.int .i64 0,.int .i64 0,.int .i64 0,.int .i64 0,.int .i64 0]:=by kernel_rfl
theorem TJ:I0 Tryz.prog 43 4 1=true:=by kernel_rfl
theorem XS:Ar Tryz.prog 101=true:=by kernel_rfl
theorem Ss:GA Tryz.prog 42 5 true=true:=by kernel_rfl
theorem Yx:Ar Tryz.prog 50=true:=by kernel_rfl
theorem DY:I0 Tryz.prog 32 51 2=true:=by kernel_rfl
theorem Nk:Ar Tryz.prog 13=true:=by kernel_rfl
theorem Qm:Ar Tryz.prog 102=true:=by kernel_rfl
theorem FY:D6 Tryz.prog 106 2 15=true:=by kernel_rfl
theorem Gt:D6 Tryz.prog 36 2 2=true:=by kernel_rfl
theorem Jf:GA Tryz.prog 33 1 false=true:=by kernel_rfl
theorem EU:I0 Tryz.prog 33 93 4=true:=by kernel_rfl
theorem IM:GA Tryz.prog 93 4 true=true:=by kernel_rfl
theorem Qw:C1 Tryz.prog 93=some [.int .i64 0,.int .i64 0,.int .i64 0,.int .i64 0]:=by kernel_rfl
theorem Lr:D6 Tryz.prog 93 0 0=true:=by kernel_rfl
theorem Gu:D6 Tryz.prog 36 0 0=true:=by kernel_rfl
theorem Kn:D6 Tryz.prog 93 1 1=true:=by kernel_rfl
theorem Io:D6 Tryz.prog 93 2 2=true:=by kernel_rfl
theorem P4:LO Tryz.prog 33=some (93,4,32,[.int .i64 0,.int .i64 0,.int .i64 0,.int .i64 0]):=by kernel_rfl
theorem Ql:Ar Tryz.prog 103=true:=by kernel_rfl
theorem Xn:C1 Tryz.prog 4=some [.bool false]:=by kernel_rfl
theorem XF:Ar Tryz.prog 148=true:=by kernel_rfl
theorem Hc:D6 Tryz.prog 102 13 14=true:=by kernel_rfl
theorem Ni:Ar Tryz.prog 73=true:=by kernel_rfl
theorem Kr:D6 Tryz.prog 102 12 13=true:=by kernel_rfl
theorem M3:D6 Tryz.prog 81 3 3=true:=by kernel_rfl
theorem XB:Ar Tryz.prog 172=true:=by kernel_rfl
theorem XE:Ar Tryz.prog 149=true:=by kernel_rfl
theorem VY:Yf Tryz.prog 81 3 3 4 1 false=true:=by kernel_rfl
theorem UX:Ar Tryz.prog 54=true:=by kernel_rfl
theorem GP:D6 Tryz.prog 102 2 2=true:=by kernel_rfl
theorem XR:Ar Tryz.prog 104=true:=by kernel_rfl
theorem Yw:Ar Tryz.prog 51=true:=by kernel_rfl
theorem TK:I0 Tryz.prog 39 184 4=true:=by kernel_rfl
theorem Pv:D6 Tryz.prog 184 2 2=true:=by kernel_rfl
theorem Sw:GA Tryz.prog 184 4 true=true:=by kernel_rfl
theorem WN:C1 Tryz.prog 184=some [.int .i64 0,.int .i64 0,.int .i64 0,.int .i64 0]:=by kernel_rfl
theorem Ty:D6 Tryz.prog 184 0 0=true:=by kernel_rfl
theorem Tx:D6 Tryz.prog 184 1 1=true:=by kernel_rfl
theorem JQ:D6 Tryz.prog 31 1 1=true:=by kernel_rfl
theorem NA:GA Tryz.prog 22 1 false=true:=by kernel_rfl
theorem MZ:I0 Tryz.prog 22 9 1=true:=by kernel_rfl
theorem Lu:D6 Tryz.prog 184 3 3=true:=by kernel_rfl
theorem JP:D6 Tryz.prog 57 2 2=true:=by kernel_rfl
theorem ND:PH Tryz.prog 181=some ([(0,1),(1,1),(2,1),(3,1)],[.int .i64 0,.int .i64 0,.int .i64 0,.nilFunc]):=by kernel_rfl
theorem XQ:Ar Tryz.prog 108=true:=by kernel_rfl
theorem I2:LO Tryz.prog 110=some (181,4,32,[.int .i64 0,.int .i64 0,.int .i64 0,.nilFunc]):=by kernel_rfl
theorem Es:D6 Tryz.prog 102 3 3=true:=by kernel_rfl
theorem LH:Tryz.prog.underlying 3=some (.int .i64):=by kernel_rfl
theorem Ix:Tryz.prog.underlying 213=some (.int .u64):=by kernel_rfl
theorem Uf:Ar Tryz.prog 142=true:=by kernel_rfl
theorem Xv:Tryz.prog.underlying 5=some (.int .u8):=by kernel_rfl
theorem Nv:Tryz.prog.underlying 9=some .string:=by kernel_rfl
theorem W7:Ar Tryz.prog 184=true:=by kernel_rfl
theorem XC:Ar Tryz.prog 171=true:=by kernel_rfl
theorem M9:Tryz.prog.underlying 230=some (.int .u64):=by kernel_rfl
theorem Ue:Ar Tryz.prog 143=true:=by kernel_rfl
theorem O3:Ar Tryz.prog 152=true:=by kernel_rfl
theorem Hb:D6 Tryz.prog 102 14 15=true:=by kernel_rfl
theorem G7:D6 Tryz.prog 102 15 16=true:=by kernel_rfl
theorem Nj:Ar Tryz.prog 173=true:=by kernel_rfl
theorem Fw:I0 Tryz.prog 54 90 2=true:=by kernel_rfl
theorem MX:GA Tryz.prog 90 2 true=true:=by kernel_rfl
theorem Qy:C1 Tryz.prog 90=some [.int .i64 0,.int .i64 0]:=by kernel_rfl
theorem Gs:D6 Tryz.prog 90 0 0=true:=by kernel_rfl
theorem GK:D6 Tryz.prog 90 1 1=true:=by kernel_rfl
theorem Ng:Ar Tryz.prog 89=true:=by kernel_rfl
theorem GG:GA Tryz.prog 54 1 false=true:=by kernel_rfl
theorem W8:Ar Tryz.prog 183=true:=by kernel_rfl
theorem XD:Ar Tryz.prog 165=true:=by kernel_rfl
theorem Qk:Ar Tryz.prog 170=true:=by kernel_rfl
theorem W9:Ar Tryz.prog 175=true:=by kernel_rfl
theorem XA:Ar Tryz.prog 174=true:=by kernel_rfl
theorem NX:D6 Tryz.prog 102 8 9=true:=by kernel_rfl
theorem Fa:D6 Tryz.prog 102 10 11=true:=by kernel_rfl
theorem Gc:D6 Tryz.prog 102 11 12=true:=by kernel_rfl
theorem NW:D6 Tryz.prog 102 9 10=true:=by kernel_rfl
theorem Gk:D6 Tryz.prog 102 5 5=true:=by kernel_rfl
theorem KW:D6 Tryz.prog 100 0 0=true:=by kernel_rfl
theorem Ub:Ar Tryz.prog 150=true:=by kernel_rfl
theorem KV:D6 Tryz.prog 100 1 1=true:=by kernel_rfl
theorem XO:Ar Tryz.prog 110=true:=by kernel_rfl
theorem UZ:Ar Tryz.prog 176=true:=by kernel_rfl
theorem Ua:Ar Tryz.prog 151=true:=by kernel_rfl
theorem Ui:Ar Tryz.prog 113=true:=by kernel_rfl
theorem Uj:Ar Tryz.prog 112=true:=by kernel_rfl
theorem XL:Ar Tryz.prog 115=true:=by kernel_rfl
theorem Kq:D6 Tryz.prog 102 16 17=true:=by kernel_rfl
theorem XP:Ar Tryz.prog 109=true:=by kernel_rfl
theorem XN:Ar Tryz.prog 111=true:=by kernel_rfl
theorem XM:Ar Tryz.prog 114=true:=by kernel_rfl
theorem Ip:D6 Tryz.prog 57 7 7=true:=by kernel_rfl
theorem Oq:D6 Tryz.prog 57 6 6=true:=by kernel_rfl
theorem Uh:Ar Tryz.prog 117=true:=by kernel_rfl
theorem M5:D6 Tryz.prog 57 8 8=true:=by kernel_rfl
theorem Oo:D6 Tryz.prog 57 9 9=true:=by kernel_rfl
theorem XK:Ar Tryz.prog 116=true:=by kernel_rfl
theorem Xp:C1 Tryz.prog 3=some [.int .i64 0]:=by kernel_rfl
theorem TO:I0 Tryz.prog 110 181 4=true:=by kernel_rfl
theorem V1:PH Tryz.prog 93=some ([(0,1),(1,1),(2,2)],[.int .i64 0,.int .i64 0,.int .i64 0,.int .i64 0]):=by kernel_rfl
theorem Ud:Ar Tryz.prog 144=true:=by kernel_rfl
theorem GI:I0 Tryz.prog 29 3 1=true:=by kernel_rfl
theorem V9:Ar Tryz.prog 99=true:=by kernel_rfl
theorem Yn:Ar Tryz.prog 98=true:=by kernel_rfl
theorem WG:Ar Tryz.prog 46=true:=by kernel_rfl
theorem XJ:Ar Tryz.prog 124=true:=by kernel_rfl
theorem XI:Ar Tryz.prog 125=true:=by kernel_rfl
theorem WD:Ar Tryz.prog 67=true:=by kernel_rfl
theorem Sx:GA Tryz.prog 181 4 true=true:=by kernel_rfl
theorem WO:C1 Tryz.prog 181=some [.int .i64 0,.int .i64 0,.int .i64 0,.nilFunc]:=by kernel_rfl
theorem Pw:D6 Tryz.prog 181 3 3=true:=by kernel_rfl
theorem TA:GA Tryz.prog 133 1 false=true:=by kernel_rfl
theorem Ul:Ar Tryz.prog 105=true:=by kernel_rfl
theorem T0:D6 Tryz.prog 181 0 0=true:=by kernel_rfl
theorem Tz:D6 Tryz.prog 181 1 1=true:=by kernel_rfl
theorem Uk:Ar Tryz.prog 107=true:=by kernel_rfl
theorem Px:D6 Tryz.prog 181 2 2=true:=by kernel_rfl
theorem Ko:D6 Tryz.prog 57 3 3=true:=by kernel_rfl
theorem Re:D6 Tryz.prog 42 3 3=true:=by kernel_rfl
theorem Vy:GA Tryz.prog 39 1 false=true:=by kernel_rfl
theorem Yu:Ar Tryz.prog 53=true:=by kernel_rfl
theorem Yv:Ar Tryz.prog 52=true:=by kernel_rfl
theorem WH:Ar Tryz.prog 12=true:=by kernel_rfl
theorem Sb:C1 Tryz.prog 71=some [.int .i64 0,.slice none 0 0,.slice none 0 0,.slice none 0 0,.slice none 0 0,.slice none 0 0,.slice none 0 0]:=by kernel_rfl
theorem X0:PH Tryz.prog 71=some ([(0,1),(1,1),(2,1),(3,1),(4,1),(5,1),(6,1)],[.int .i64 0,.slice none 0 0,.slice none 0 0,.slice none 0 0,.slice none 0 0,.slice none 0 0,.slice none 0 0]):=by kernel_rfl
theorem Yh:LO Tryz.prog 67=some (29,1,24,[.slice none 0 0]):=by kernel_rfl
theorem Yg:LO Tryz.prog 69=some (81,4,24,[.int .i64 0,.int .i64 0,.bool false,.bool false]):=by kernel_rfl
theorem I6:GA Tryz.prog 71 7 true=true:=by kernel_rfl
theorem Sm:∃e,Tryz.prog.underlying 29=some (.slice e):=⟨3,by kernel_rfl⟩
theorem M4:D6 Tryz.prog 71 1 1=true:=by kernel_rfl
theorem Q3:GA Tryz.prog 67 1 false=true:=by kernel_rfl
theorem Ot:D6 Tryz.prog 57 5 5=true:=by kernel_rfl
theorem KB:GA Tryz.prog 29 1 false=true:=by kernel_rfl
theorem Ys:Ar Tryz.prog 84=true:=by kernel_rfl
theorem PY:I0 Tryz.prog 67 29 1=true:=by kernel_rfl
theorem ZA:Ar Tryz.prog 35=true:=by kernel_rfl
theorem Mk:V7 Tryz.prog 51=some [1,1]:=by kernel_rfl
theorem QC:Ar Tryz.prog 14=true:=by kernel_rfl
theorem Y0:Ar Tryz.prog 47=true:=by kernel_rfl
theorem WE:Ar Tryz.prog 61=true:=by kernel_rfl
theorem Rc:D6 Tryz.prog 71 0 0=true:=by kernel_rfl
theorem On:D6 Tryz.prog 71 4 4=true:=by kernel_rfl
theorem Sr:GA Tryz.prog 69 1 false=true:=by kernel_rfl
theorem Q8:I0 Tryz.prog 69 81 4=true:=by kernel_rfl
theorem Ro:Ar Tryz.prog 30=true:=by kernel_rfl
theorem WC:Ar Tryz.prog 68=true:=by kernel_rfl
theorem Rb:D6 Tryz.prog 71 3 3=true:=by kernel_rfl
theorem Vx:GA Tryz.prog 68 1 false=true:=by kernel_rfl
theorem Q9:I0 Tryz.prog 68 83 3=true:=by kernel_rfl
theorem Q2:GA Tryz.prog 83 3 true=true:=by kernel_rfl
theorem Vv:C1 Tryz.prog 83=some [.int .i64 0,.int .i64 0,.slice none 0 0]:=by kernel_rfl
theorem Ra:D6 Tryz.prog 83 0 0=true:=by kernel_rfl
theorem RZ:D6 Tryz.prog 83 1 1=true:=by kernel_rfl
theorem TH:PH Tryz.prog 197=some ([(0,1),(1,1)],[.int .i64 0,.int .i64 0]):=by kernel_rfl
theorem QQ:C1 Tryz.prog 197=some [.int .i64 0,.int .i64 0]:=by kernel_rfl
theorem KC:GA Tryz.prog 197 2 true=true:=by kernel_rfl
theorem OU:Tryz.prog.underlying 195=some (.map 197 3):=by kernel_rfl
theorem W0:V7 Tryz.prog 197=some [1,1]:=by kernel_rfl
theorem Li:JG Tryz.prog 197 (λk:AU=>Value.agg (AU.v k).toArray):=JG.agg (f:=AU.v) Tryz.underlying197 W0 (λk=>rfl) (λa b=>rfl) (λk e w=>by kernel_rfl) (λa b h=>by
 simp only[AU.v,ML,UO,Bool.and_eq_true,MR,decide_eq_true_eq,beq_iff_eq] at h
 simp [AU.v,h]) (λa=>by simp [Instr.sameBits,AU.v,MR.2])
theorem Xm:∀w,(zeroValue 3).run Tryz.prog w= .ok (.int .i64 0) w:=λw=>by kernel_rfl
theorem RY:D6 Tryz.prog 83 2 2=true:=by kernel_rfl
theorem So:Tryz.prog.underlying 198=some (.map 197 4):=by kernel_rfl
theorem Xl:∀w,(zeroValue 4).run Tryz.prog w= .ok (.bool false) w:=λw=>by kernel_rfl
theorem Yt:Ar Tryz.prog 74=true:=by kernel_rfl
theorem Xy:PH Tryz.prog 97=some ([(0,2),(2,1),(3,2)],[.int .i64 0,.int .i64 0,.int .i64 0,.int .i64 0,.int .i64 0]):=by kernel_rfl
theorem Nl:Ar Tryz.prog 11=true:=by kernel_rfl
theorem OL:Ar Tryz.prog 20=true:=by kernel_rfl
theorem Rp:Ar Tryz.prog 26=true:=by kernel_rfl
theorem UY:Ar Tryz.prog 24=true:=by kernel_rfl
theorem Zf:Ar Tryz.prog 8=true:=by kernel_rfl
theorem Vg:D6 Tryz.prog 42 0 0=true:=by kernel_rfl
theorem Vf:D6 Tryz.prog 42 4 4=true:=by kernel_rfl
theorem Xx:GA Tryz.prog 40 1 false=true:=by kernel_rfl
theorem X6:I0 Tryz.prog 40 260 4=true:=by kernel_rfl
theorem Ox:D6 Tryz.prog 31 0 0=true:=by kernel_rfl
theorem Nw:GA Tryz.prog 9 1 false=true:=by kernel_rfl
theorem Fh:Ar Tryz.prog 85=true:=by kernel_rfl
theorem Ow:D6 Tryz.prog 31 2 2=true:=by kernel_rfl
theorem Lt:D6 Tryz.prog 31 5 5=true:=by kernel_rfl
theorem PP:GA Tryz.prog 25 1 false=true:=by kernel_rfl
theorem NF:I0 Tryz.prog 25 114 7=true:=by kernel_rfl
theorem Ov:D6 Tryz.prog 31 6 6=true:=by kernel_rfl
theorem Sv:GA Tryz.prog 26 1 false=true:=by kernel_rfl
theorem Pa:I0 Tryz.prog 26 147 5=true:=by kernel_rfl
theorem Ou:D6 Tryz.prog 31 7 7=true:=by kernel_rfl
theorem Su:GA Tryz.prog 27 1 false=true:=by kernel_rfl
theorem PZ:I0 Tryz.prog 27 160 7=true:=by kernel_rfl
theorem M6:D6 Tryz.prog 31 8 8=true:=by kernel_rfl
theorem Q4:GA Tryz.prog 28 1 false=true:=by kernel_rfl
theorem N3:I0 Tryz.prog 28 158 2=true:=by kernel_rfl
theorem Rh:D6 Tryz.prog 31 9 9=true:=by kernel_rfl
theorem Tw:D6 Tryz.prog 31 10 10=true:=by kernel_rfl
theorem HV:Ar Tryz.prog 86=true:=by kernel_rfl
theorem WT:C1 Tryz.prog 154=some [.map none]:=by kernel_rfl
theorem S7:GA Tryz.prog 154 1 false=true:=by kernel_rfl
theorem Wc:PH Tryz.prog 210=some ([(0,1),(1,1)],[.string ByteArray.empty,.string ByteArray.empty]):=by kernel_rfl
theorem WM:C1 Tryz.prog 210=some [.string ByteArray.empty,.string ByteArray.empty]:=by kernel_rfl
theorem QS:GA Tryz.prog 210 2 true=true:=by kernel_rfl
theorem XH:Ar Tryz.prog 140=true:=by kernel_rfl
theorem Sq:Tryz.prog.underlying 154=some (.map 210 4):=by kernel_rfl
theorem Wz:V7 Tryz.prog 210=some [3,3]:=by kernel_rfl
theorem RU:JG Tryz.prog 210 (λk:AG=>Value.agg (AG.v k).toArray):=JG.agg (f:=AG.v) Tryz.underlying210 Wz (λk=>rfl) (λa b=>rfl) (λk e w=>by kernel_rfl) (λa b h=>by
 simp only[AG.v,ML,UO,Bool.and_eq_true,MR,decide_eq_true_eq,beq_iff_eq] at h
 simp [AG.v,h]) (λa=>by simp [Instr.sameBits,AG.v,MR.2])
theorem Yr:Ar Tryz.prog 88=true:=by kernel_rfl
theorem Nh:Ar Tryz.prog 87=true:=by kernel_rfl
theorem Ve:D6 Tryz.prog 57 0 0=true:=by kernel_rfl
theorem UL:D6 Tryz.prog 102 0 0=true:=by kernel_rfl
theorem OY:GA Tryz.prog 114 7 true=true:=by kernel_rfl
theorem Sf:C1 Tryz.prog 114=some [.string ByteArray.empty,.int .i64 0,.int .i64 0,.int .i64 0,.int .i64 0,.int .i64 0,.int .i64 0]:=by kernel_rfl
theorem UK:D6 Tryz.prog 114 0 0=true:=by kernel_rfl
theorem OW:GA Tryz.prog 158 2 true=true:=by kernel_rfl
theorem Sd:C1 Tryz.prog 158=some [.string ByteArray.empty,.int .i64 0]:=by kernel_rfl
theorem T9:D6 Tryz.prog 158 0 0=true:=by kernel_rfl
theorem OX:GA Tryz.prog 147 5 true=true:=by kernel_rfl
theorem Se:C1 Tryz.prog 147=some [.string ByteArray.empty,.int .i64 0,.int .i64 0,.int .i64 0,.int .i64 0]:=by kernel_rfl
theorem UD:D6 Tryz.prog 147 0 0=true:=by kernel_rfl
theorem OV:GA Tryz.prog 160 7 true=true:=by kernel_rfl
theorem Sc:C1 Tryz.prog 160=some [.string ByteArray.empty,.int .i64 0,.int .i64 0,.int .i64 0,.int .i64 0,.int .i64 0,.int .i64 0]:=by kernel_rfl
theorem T7:D6 Tryz.prog 160 0 0=true:=by kernel_rfl
theorem Nf:Ar Tryz.prog 92=true:=by kernel_rfl
theorem Vd:D6 Tryz.prog 57 1 1=true:=by kernel_rfl
theorem Tv:D6 Tryz.prog 57 10 10=true:=by kernel_rfl
theorem Vc:D6 Tryz.prog 57 4 4=true:=by kernel_rfl
theorem UW:Ar Tryz.prog 90=true:=by kernel_rfl
theorem WB:Ar Tryz.prog 91=true:=by kernel_rfl
theorem Tu:D6 Tryz.prog 57 11 11=true:=by kernel_rfl
theorem Xw:GA Tryz.prog 55 1 false=true:=by kernel_rfl
theorem V4:I0 Tryz.prog 55 164 2=true:=by kernel_rfl
theorem S3:GA Tryz.prog 164 2 true=true:=by kernel_rfl
theorem WS:C1 Tryz.prog 164=some [.int .i64 0,.int .i64 0]:=by kernel_rfl
theorem NU:D6 Tryz.prog 164 0 0=true:=by kernel_rfl
theorem T4:D6 Tryz.prog 164 1 1=true:=by kernel_rfl
theorem KU:D6 Tryz.prog 102 4 4=true:=by kernel_rfl
theorem Ug:Ar Tryz.prog 141=true:=by kernel_rfl
theorem Yq:Ar Tryz.prog 93=true:=by kernel_rfl
theorem Yp:Ar Tryz.prog 94=true:=by kernel_rfl
theorem WA:Ar Tryz.prog 95=true:=by kernel_rfl
theorem OK:Ar Tryz.prog 96=true:=by kernel_rfl
theorem TN:I0 Tryz.prog 217 54 1=true:=by kernel_rfl
theorem W2:LO Tryz.prog 217=some (54,1,24,[.slice none 0 0]):=by kernel_rfl
theorem Yo:Ar Tryz.prog 97=true:=by kernel_rfl
theorem UJ:D6 Tryz.prog 114 1 1=true:=by kernel_rfl
theorem UI:D6 Tryz.prog 114 2 2=true:=by kernel_rfl
theorem UH:D6 Tryz.prog 114 3 3=true:=by kernel_rfl
theorem UG:D6 Tryz.prog 114 4 4=true:=by kernel_rfl
theorem UF:D6 Tryz.prog 114 5 5=true:=by kernel_rfl
theorem UE:D6 Tryz.prog 114 6 6=true:=by kernel_rfl
theorem T8:D6 Tryz.prog 158 1 1=true:=by kernel_rfl
theorem P2:D6 Tryz.prog 147 1 1=true:=by kernel_rfl
theorem UB:D6 Tryz.prog 147 3 3=true:=by kernel_rfl
theorem UA:D6 Tryz.prog 147 4 4=true:=by kernel_rfl
theorem XW:ZJ Tryz.prog 167=some ([(0,1),(1,1),(2,1)],[.int .i64 0,.int .i64 0,.int .i64 0]):=by kernel_rfl
theorem WR:C1 Tryz.prog 167=some [.int .i64 0,.int .i64 0,.int .i64 0]:=by kernel_rfl
theorem WY:GA Tryz.prog 167 3 true=true:=by kernel_rfl
theorem UC:D6 Tryz.prog 147 2 2=true:=by kernel_rfl
theorem XV:Zg Tryz.prog 167 3 1=true:=by kernel_rfl
theorem P1:D6 Tryz.prog 160 1 1=true:=by kernel_rfl
theorem Pz:D6 Tryz.prog 160 2 2=true:=by kernel_rfl
theorem T6:D6 Tryz.prog 160 3 3=true:=by kernel_rfl
theorem T5:D6 Tryz.prog 160 4 4=true:=by kernel_rfl
theorem Py:D6 Tryz.prog 160 6 6=true:=by kernel_rfl
theorem NV:D6 Tryz.prog 160 5 5=true:=by kernel_rfl
theorem Y9:Ar Tryz.prog 36=true:=by kernel_rfl
theorem Y8:Ar Tryz.prog 37=true:=by kernel_rfl
theorem Y7:Ar Tryz.prog 38=true:=by kernel_rfl
theorem Y6:Ar Tryz.prog 39=true:=by kernel_rfl
theorem Y5:Ar Tryz.prog 40=true:=by kernel_rfl
theorem Y4:Ar Tryz.prog 41=true:=by kernel_rfl
theorem Y3:Ar Tryz.prog 42=true:=by kernel_rfl
theorem Y2:Ar Tryz.prog 43=true:=by kernel_rfl
theorem Y1:Ar Tryz.prog 44=true:=by kernel_rfl
theorem Ze:Ar Tryz.prog 9=true:=by kernel_rfl
theorem ZC:Ar Tryz.prog 10=true:=by kernel_rfl
theorem ZP:Tryz.prog.underlying 3=some (.int .i64):=by kernel_rfl
end Go.Proofs.YtibidnaedddfdaaGreat
