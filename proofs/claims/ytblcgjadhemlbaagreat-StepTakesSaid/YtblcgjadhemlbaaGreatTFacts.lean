import Derived.Test.YtblcgjadhemlbaaGreatTReps
import Derived.Test.YtblcgjadhemlbaaGreatRows
namespace Go.Proofs.YtblcgjadhemlbaaGreat
open Go.RowKit
set_option linter.unusedVariables false
set_option linter.unusedSimpArgs false
theorem Y4:EF Tryz.prog 31=some [.string ByteArray.empty,.slice none 0 0,.int .i64 0,.slice none 0 0,.slice none 0 0,.slice none 0 0,.slice none 0 0,.slice none 0 0,.slice none 0 0,.slice none 0 0,.int .i64 0]:=by kernel_rfl
theorem cW:Tb Tryz.prog 98=some ([(0,1),(1,1)],[.int .i64 0,.int .i64 0]):=by kernel_rfl
theorem eL:M8 Tryz.prog 53=some (98,2,16,[.int .i64 0,.int .i64 0]):=by kernel_rfl
theorem FJ:M8 Tryz.prog 29=some (3,1,8,[.int .i64 0]):=by kernel_rfl
theorem cZ:Tb Tryz.prog 56=some ([(0,1),(1,1),(2,1),(3,1),(4,1),(5,1),(6,1),(7,1),(8,1),(9,1),(10,1),(11,1)],[.string ByteArray.empty,.int .i64 0,.int .i64 0,.int .i64 0,.slice none 0 0,.slice none 0 0,.int .i64 0,.int .i64 0,.int .i64 0,.int .i64 0,.int .i64 0,.slice none 0 0]):=by kernel_rfl
theorem OR:EF Tryz.prog 56=some [.string ByteArray.empty,.int .i64 0,.int .i64 0,.int .i64 0,.slice none 0 0,.slice none 0 0,.int .i64 0,.int .i64 0,.int .i64 0,.int .i64 0,.int .i64 0,.slice none 0 0]:=by kernel_rfl
theorem Jt:II Tryz.prog 56 12 true=true:=by kernel_rfl
theorem eO:M8 Tryz.prog 22=some (9,1,16,[.string ByteArray.empty]):=by kernel_rfl
theorem eN:M8 Tryz.prog 23=some (56,12,152,[.string ByteArray.empty,.int .i64 0,.int .i64 0,.int .i64 0,.slice none 0 0,.slice none 0 0,.int .i64 0,.int .i64 0,.int .i64 0,.int .i64 0,.int .i64 0,.slice none 0 0]):=by kernel_rfl
theorem dB:Tb Tryz.prog 31=some ([(0,1),(1,1),(2,1),(3,1),(4,1),(5,1),(6,1),(7,1),(8,1),(9,1),(10,1)],[.string ByteArray.empty,.slice none 0 0,.int .i64 0,.slice none 0 0,.slice none 0 0,.slice none 0 0,.slice none 0 0,.slice none 0 0,.slice none 0 0,.slice none 0 0,.int .i64 0]):=by kernel_rfl
theorem G0:II Tryz.prog 31 11 true=true:=by kernel_rfl
theorem gL:BU Tryz.prog 26=true:=by kernel_rfl
theorem OT:EF Tryz.prog 36=some [.int .i64 0,.slice none 0 0,.slice none 0 0,.slice none 0 0,.slice none 0 0,.slice none 0 0,.slice none 0 0]:=by kernel_rfl
theorem mo:Tryz.prog.follows .mixedOrders=true:=by kernel_rfl
theorem C0:FP Tryz.prog 31 3 3=true:=by kernel_rfl
theorem Fq:II Tryz.prog 23 1 false=true:=by kernel_rfl
theorem Ez:KQ Tryz.prog 23 56 12=true:=by kernel_rfl
theorem HA:FP Tryz.prog 31 4 4=true:=by kernel_rfl
theorem Jv:II Tryz.prog 24 1 false=true:=by kernel_rfl
theorem H6:KQ Tryz.prog 24 67 18=true:=by kernel_rfl
theorem HT:FP Tryz.prog 31 1 1=true:=by kernel_rfl
theorem KI:II Tryz.prog 22 1 false=true:=by kernel_rfl
theorem Jx:KQ Tryz.prog 22 9 1=true:=by kernel_rfl
theorem dA:Tb Tryz.prog 36=some ([(0,1),(1,1),(2,1),(3,1),(4,1),(5,1),(6,1)],[.int .i64 0,.slice none 0 0,.slice none 0 0,.slice none 0 0,.slice none 0 0,.slice none 0 0,.slice none 0 0]):=by kernel_rfl
theorem XG:M8 Tryz.prog 32=some (29,1,24,[.slice none 0 0]):=by kernel_rfl
theorem XE:M8 Tryz.prog 34=some (69,4,24,[.int .i64 0,.int .i64 0,.bool false,.bool false]):=by kernel_rfl
theorem G8:II Tryz.prog 36 7 true=true:=by kernel_rfl
theorem Vo:∃e,Tryz.prog.underlying 29=some (.slice e):=⟨3,by kernel_rfl⟩
theorem D2:FP Tryz.prog 36 1 1=true:=by kernel_rfl
theorem G9:II Tryz.prog 32 1 false=true:=by kernel_rfl
theorem Ro:FP Tryz.prog 56 5 5=true:=by kernel_rfl
theorem BX:II Tryz.prog 29 1 false=true:=by kernel_rfl
theorem P5:BU Tryz.prog 39=true:=by kernel_rfl
theorem E3:KQ Tryz.prog 32 29 1=true:=by kernel_rfl
theorem gT:BU Tryz.prog 15=true:=by kernel_rfl
theorem Rv:FP Tryz.prog 31 0 0=true:=by kernel_rfl
theorem QH:II Tryz.prog 9 1 false=true:=by kernel_rfl
theorem QG:Tryz.prog.underlying 9=some .string:=by kernel_rfl
theorem Hn:BU Tryz.prog 68=true:=by kernel_rfl
theorem Ru:FP Tryz.prog 31 2 2=true:=by kernel_rfl
theorem Ae:II Tryz.prog 3 1 false=true:=by kernel_rfl
theorem Nv:FP Tryz.prog 31 5 5=true:=by kernel_rfl
theorem SP:II Tryz.prog 25 1 false=true:=by kernel_rfl
theorem Pf:KQ Tryz.prog 25 124 7=true:=by kernel_rfl
theorem Rs:FP Tryz.prog 31 6 6=true:=by kernel_rfl
theorem Vt:II Tryz.prog 26 1 false=true:=by kernel_rfl
theorem Sa:KQ Tryz.prog 26 128 5=true:=by kernel_rfl
theorem Rr:FP Tryz.prog 31 7 7=true:=by kernel_rfl
theorem Vs:II Tryz.prog 27 1 false=true:=by kernel_rfl
theorem SZ:KQ Tryz.prog 27 130 7=true:=by kernel_rfl
theorem PP:FP Tryz.prog 31 8 8=true:=by kernel_rfl
theorem UD:II Tryz.prog 28 1 false=true:=by kernel_rfl
theorem Qf:KQ Tryz.prog 28 126 2=true:=by kernel_rfl
theorem Um:FP Tryz.prog 31 9 9=true:=by kernel_rfl
theorem BR:KQ Tryz.prog 29 3 1=true:=by kernel_rfl
theorem Wq:FP Tryz.prog 31 10 10=true:=by kernel_rfl
theorem JZ:BU Tryz.prog 69=true:=by kernel_rfl
theorem Zk:EF Tryz.prog 120=some [.map none]:=by kernel_rfl
theorem Vv:II Tryz.prog 120 1 false=true:=by kernel_rfl
theorem iU:EF Tryz.prog 4=some [.bool false]:=by kernel_rfl
theorem Ol:II Tryz.prog 4 1 false=true:=by kernel_rfl
theorem Zu:Tb Tryz.prog 151=some ([(0,1),(1,1)],[.string ByteArray.empty,.string ByteArray.empty]):=by kernel_rfl
theorem Zh:EF Tryz.prog 151=some [.string ByteArray.empty,.string ByteArray.empty]:=by kernel_rfl
theorem TX:II Tryz.prog 151 2 true=true:=by kernel_rfl
theorem eV:BU Tryz.prog 92=true:=by kernel_rfl
theorem Vq:Tryz.prog.underlying 120=some (.map 151 4):=by kernel_rfl
theorem aG:aH Tryz.prog 151=some [3,3]:=by kernel_rfl
theorem UZ:Mg Tryz.prog 151 (λk:AS=>Value.agg (AS.v k).toArray):=Mg.agg (f:=AS.v) Tryz.underlying151 aG (λk=>rfl) (λa b=>rfl) (λk e w=>by kernel_rfl) (λa b h=>by
 simp only[AS.v,XD,YX,Bool.and_eq_true,R0,decide_eq_true_eq,beq_iff_eq] at h
 simp [AS.v,h]) (λa=>by simp [Instr.sameBits,AS.v,R0.2])
theorem iT:∀w,(zeroValue 4).run Tryz.prog w= .ok (.bool false) w:=λw=>by kernel_rfl
theorem fF:BU Tryz.prog 71=true:=by kernel_rfl
theorem P4:BU Tryz.prog 70=true:=by kernel_rfl
theorem YU:FP Tryz.prog 56 0 0=true:=by kernel_rfl
theorem HW:II Tryz.prog 67 18 true=true:=by kernel_rfl
theorem OQ:EF Tryz.prog 67=some [.string ByteArray.empty,.int .i64 0,.int .i64 0,.int .i64 0,.slice none 0 0,.slice none 0 0,.slice none 0 0,.int .i64 0,.int .i64 0,.int .i64 0,.int .i64 0,.int .i64 0,.int .i64 0,.int .i64 0,.int .i64 0,.int .i64 0,.int .i64 0,.int .i64 0]:=by kernel_rfl
theorem YR:FP Tryz.prog 67 0 0=true:=by kernel_rfl
theorem Q8:II Tryz.prog 124 7 true=true:=by kernel_rfl
theorem Vj:EF Tryz.prog 124=some [.string ByteArray.empty,.int .i64 0,.int .i64 0,.int .i64 0,.int .i64 0,.int .i64 0,.int .i64 0]:=by kernel_rfl
theorem W7:FP Tryz.prog 124 0 0=true:=by kernel_rfl
theorem Q7:II Tryz.prog 126 2 true=true:=by kernel_rfl
theorem Vi:EF Tryz.prog 126=some [.string ByteArray.empty,.int .i64 0]:=by kernel_rfl
theorem W0:FP Tryz.prog 126 0 0=true:=by kernel_rfl
theorem Q6:II Tryz.prog 128 5 true=true:=by kernel_rfl
theorem Vh:EF Tryz.prog 128=some [.string ByteArray.empty,.int .i64 0,.int .i64 0,.int .i64 0,.int .i64 0]:=by kernel_rfl
theorem Wy:FP Tryz.prog 128 0 0=true:=by kernel_rfl
theorem Q5:II Tryz.prog 130 7 true=true:=by kernel_rfl
theorem Vg:EF Tryz.prog 130=some [.string ByteArray.empty,.int .i64 0,.int .i64 0,.int .i64 0,.int .i64 0,.int .i64 0,.int .i64 0]:=by kernel_rfl
theorem Wu:FP Tryz.prog 130 0 0=true:=by kernel_rfl
theorem H5:KQ Tryz.prog 53 98 2=true:=by kernel_rfl
theorem OU:II Tryz.prog 98 2 true=true:=by kernel_rfl
theorem T7:EF Tryz.prog 98=some [.int .i64 0,.int .i64 0]:=by kernel_rfl
theorem I3:FP Tryz.prog 98 0 0=true:=by kernel_rfl
theorem IK:FP Tryz.prog 98 1 1=true:=by kernel_rfl
theorem P2:BU Tryz.prog 75=true:=by kernel_rfl
theorem YT:FP Tryz.prog 56 1 1=true:=by kernel_rfl
theorem KW:FP Tryz.prog 56 2 2=true:=by kernel_rfl
theorem Rm:FP Tryz.prog 56 9 9=true:=by kernel_rfl
theorem Uj:FP Tryz.prog 56 3 3=true:=by kernel_rfl
theorem Wp:FP Tryz.prog 56 10 10=true:=by kernel_rfl
theorem YS:FP Tryz.prog 56 4 4=true:=by kernel_rfl
theorem IQ:II Tryz.prog 53 1 false=true:=by kernel_rfl
theorem P3:BU Tryz.prog 72=true:=by kernel_rfl
theorem Rn:FP Tryz.prog 56 6 6=true:=by kernel_rfl
theorem K3:FP Tryz.prog 56 7 7=true:=by kernel_rfl
theorem XN:BU Tryz.prog 73=true:=by kernel_rfl
theorem PN:FP Tryz.prog 56 8 8=true:=by kernel_rfl
theorem ZX:BU Tryz.prog 74=true:=by kernel_rfl
theorem Wo:FP Tryz.prog 56 11 11=true:=by kernel_rfl
theorem cS:II Tryz.prog 54 1 false=true:=by kernel_rfl
theorem ZG:KQ Tryz.prog 54 134 2=true:=by kernel_rfl
theorem Vu:II Tryz.prog 134 2 true=true:=by kernel_rfl
theorem Zj:EF Tryz.prog 134=some [.int .i64 0,.int .i64 0]:=by kernel_rfl
theorem Px:FP Tryz.prog 134 0 0=true:=by kernel_rfl
theorem Wr:FP Tryz.prog 134 1 1=true:=by kernel_rfl
theorem GF:FP Tryz.prog 67 1 1=true:=by kernel_rfl
theorem OC:Tryz.prog.underlying 3=some (.int .i64):=by kernel_rfl
theorem TW:Tryz.prog.underlying 164=some (.int .u64):=by kernel_rfl
theorem aQ:BU Tryz.prog 111=true:=by kernel_rfl
theorem aR:BU Tryz.prog 110=true:=by kernel_rfl
theorem K8:Tryz.prog.underlying 154=some (.int .u64):=by kernel_rfl
theorem ZR:BU Tryz.prog 94=true:=by kernel_rfl
theorem cQ:Tryz.prog.underlying 5=some (.int .u8):=by kernel_rfl
theorem aP:BU Tryz.prog 112=true:=by kernel_rfl
theorem aW:BU Tryz.prog 103=true:=by kernel_rfl
theorem ZQ:BU Tryz.prog 95=true:=by kernel_rfl
theorem TI:BU Tryz.prog 88=true:=by kernel_rfl
theorem Tt:BU Tryz.prog 102=true:=by kernel_rfl
theorem Mu:FP Tryz.prog 67 4 4=true:=by kernel_rfl
theorem K2:FP Tryz.prog 67 5 5=true:=by kernel_rfl
theorem PM:FP Tryz.prog 65 0 0=true:=by kernel_rfl
theorem PL:FP Tryz.prog 65 1 1=true:=by kernel_rfl
theorem ZS:BU Tryz.prog 93=true:=by kernel_rfl
theorem JI:FP Tryz.prog 67 6 7=true:=by kernel_rfl
theorem Nr:FP Tryz.prog 67 7 8=true:=by kernel_rfl
theorem Rl:FP Tryz.prog 67 8 9=true:=by kernel_rfl
theorem Kl:FP Tryz.prog 67 14 15=true:=by kernel_rfl
theorem J1:FP Tryz.prog 67 15 16=true:=by kernel_rfl
theorem Ht:FP Tryz.prog 67 3 3=true:=by kernel_rfl
theorem Rk:FP Tryz.prog 67 9 10=true:=by kernel_rfl
theorem IT:FP Tryz.prog 67 10 11=true:=by kernel_rfl
theorem JK:FP Tryz.prog 67 11 12=true:=by kernel_rfl
theorem Nu:FP Tryz.prog 67 12 13=true:=by kernel_rfl
theorem Nt:FP Tryz.prog 67 13 14=true:=by kernel_rfl
theorem JJ:FP Tryz.prog 67 2 2=true:=by kernel_rfl
theorem Ns:FP Tryz.prog 67 16 17=true:=by kernel_rfl
theorem fE:BU Tryz.prog 76=true:=by kernel_rfl
theorem fD:BU Tryz.prog 77=true:=by kernel_rfl
theorem ZW:BU Tryz.prog 78=true:=by kernel_rfl
theorem Qs:BU Tryz.prog 79=true:=by kernel_rfl
theorem V8:KQ Tryz.prog 158 53 1=true:=by kernel_rfl
theorem aJ:M8 Tryz.prog 158=some (53,1,24,[.slice none 0 0]):=by kernel_rfl
theorem fC:BU Tryz.prog 80=true:=by kernel_rfl
theorem W6:FP Tryz.prog 124 1 1=true:=by kernel_rfl
theorem W5:FP Tryz.prog 124 2 2=true:=by kernel_rfl
theorem W4:FP Tryz.prog 124 3 3=true:=by kernel_rfl
theorem W3:FP Tryz.prog 124 4 4=true:=by kernel_rfl
theorem W2:FP Tryz.prog 124 5 5=true:=by kernel_rfl
theorem W1:FP Tryz.prog 124 6 6=true:=by kernel_rfl
theorem Wz:FP Tryz.prog 126 1 1=true:=by kernel_rfl
theorem TB:FP Tryz.prog 128 1 1=true:=by kernel_rfl
theorem Ww:FP Tryz.prog 128 3 3=true:=by kernel_rfl
theorem Wv:FP Tryz.prog 128 4 4=true:=by kernel_rfl
theorem bC:iN Tryz.prog 137=some ([(0,1),(1,1),(2,1)],[.int .i64 0,.int .i64 0,.int .i64 0]):=by kernel_rfl
theorem Zi:EF Tryz.prog 137=some [.int .i64 0,.int .i64 0,.int .i64 0]:=by kernel_rfl
theorem Zr:II Tryz.prog 137 3 true=true:=by kernel_rfl
theorem Wx:FP Tryz.prog 128 2 2=true:=by kernel_rfl
theorem bA:jP Tryz.prog 137 3 1=true:=by kernel_rfl
theorem TA:FP Tryz.prog 130 1 1=true:=by kernel_rfl
theorem S7:FP Tryz.prog 130 2 2=true:=by kernel_rfl
theorem Wt:FP Tryz.prog 130 3 3=true:=by kernel_rfl
theorem Ws:FP Tryz.prog 130 4 4=true:=by kernel_rfl
theorem S5:FP Tryz.prog 130 6 6=true:=by kernel_rfl
theorem Py:FP Tryz.prog 130 5 5=true:=by kernel_rfl
theorem fV:BU Tryz.prog 47=true:=by kernel_rfl
theorem fU:BU Tryz.prog 48=true:=by kernel_rfl
theorem fT:BU Tryz.prog 49=true:=by kernel_rfl
theorem fS:BU Tryz.prog 50=true:=by kernel_rfl
theorem fR:BU Tryz.prog 51=true:=by kernel_rfl
theorem fQ:BU Tryz.prog 52=true:=by kernel_rfl
theorem fP:BU Tryz.prog 53=true:=by kernel_rfl
theorem fO:BU Tryz.prog 54=true:=by kernel_rfl
theorem fN:BU Tryz.prog 55=true:=by kernel_rfl
theorem IM:FP Tryz.prog 36 0 0=true:=by kernel_rfl
theorem Jm:FP Tryz.prog 36 2 2=true:=by kernel_rfl
theorem Hw:FP Tryz.prog 36 4 4=true:=by kernel_rfl
theorem Ke:II Tryz.prog 34 1 false=true:=by kernel_rfl
theorem KJ:KQ Tryz.prog 34 69 4=true:=by kernel_rfl
theorem KX:FP Tryz.prog 36 5 5=true:=by kernel_rfl
theorem JL:FP Tryz.prog 36 6 6=true:=by kernel_rfl
theorem Gn:II Tryz.prog 69 4 true=true:=by kernel_rfl
theorem SH:EF Tryz.prog 69=some [.int .i64 0,.int .i64 0,.bool false,.bool false]:=by kernel_rfl
theorem Mt:FP Tryz.prog 69 0 0=true:=by kernel_rfl
theorem PK:FP Tryz.prog 69 1 1=true:=by kernel_rfl
theorem Nq:FP Tryz.prog 69 3 3=true:=by kernel_rfl
theorem ZT:BU Tryz.prog 91=true:=by kernel_rfl
theorem Qt:BU Tryz.prog 36=true:=by kernel_rfl
theorem ZY:BU Tryz.prog 67=true:=by kernel_rfl
theorem NG:BU Tryz.prog 59=true:=by kernel_rfl
theorem IL:FP Tryz.prog 36 3 3=true:=by kernel_rfl
theorem Ju:II Tryz.prog 33 1 false=true:=by kernel_rfl
theorem Im:KQ Tryz.prog 33 60 3=true:=by kernel_rfl
theorem Kx:II Tryz.prog 60 3 true=true:=by kernel_rfl
theorem QY:EF Tryz.prog 60=some [.int .i64 0,.int .i64 0,.slice none 0 0]:=by kernel_rfl
theorem Mv:FP Tryz.prog 60 0 0=true:=by kernel_rfl
theorem KV:FP Tryz.prog 60 1 1=true:=by kernel_rfl
theorem Of:BU Tryz.prog 57=true:=by kernel_rfl
theorem KU:FP Tryz.prog 60 2 2=true:=by kernel_rfl
theorem gB:BU Tryz.prog 37=true:=by kernel_rfl
theorem ZZ:BU Tryz.prog 38=true:=by kernel_rfl
theorem Zb:BU Tryz.prog 27=true:=by kernel_rfl
theorem XS:BU Tryz.prog 14=true:=by kernel_rfl
theorem ZE:Tb Tryz.prog 42=some ([(0,1),(1,1),(2,1),(3,1),(4,1)],[.slice none 0 0,.slice none 0 0,.slice none 0 0,.slice none 0 0,.slice none 0 0]):=by kernel_rfl
theorem Vn:∃e,Tryz.prog.underlying 34=some (.slice e):=⟨69,by kernel_rfl⟩
theorem fM:BU Tryz.prog 56=true:=by kernel_rfl
theorem SO:II Tryz.prog 42 5 true=true:=by kernel_rfl
theorem gJ:BU Tryz.prog 29=true:=by kernel_rfl
theorem cX:Tb Tryz.prog 84=some ([(0,11),(11,5),(16,7),(23,1),(24,1),(25,1)],[.string ByteArray.empty,.slice none 0 0,.int .i64 0,.slice none 0 0,.slice none 0 0,.slice none 0 0,.slice none 0 0,.slice none 0 0,.slice none 0 0,.slice none 0 0,.int .i64 0,.slice none 0 0,.slice none 0 0,.slice none 0 0,.slice none 0 0,.slice none 0 0,.int .i64 0,.slice none 0 0,.slice none 0 0,.slice none 0 0,.slice none 0 0,.slice none 0 0,.slice none 0 0,.slice none 0 0,.slice none 0 0,.slice none 0 0]):=by kernel_rfl
theorem cH:EF Tryz.prog 84=some [.string ByteArray.empty,.slice none 0 0,.int .i64 0,.slice none 0 0,.slice none 0 0,.slice none 0 0,.slice none 0 0,.slice none 0 0,.slice none 0 0,.slice none 0 0,.int .i64 0,.slice none 0 0,.slice none 0 0,.slice none 0 0,.slice none 0 0,.slice none 0 0,.int .i64 0,.slice none 0 0,.slice none 0 0,.slice none 0 0,.slice none 0 0,.slice none 0 0,.slice none 0 0,.slice none 0 0,.slice none 0 0,.slice none 0 0]:=by kernel_rfl
theorem cR:II Tryz.prog 84 26 true=true:=by kernel_rfl
theorem Ms:FP Tryz.prog 84 1 11=true:=by kernel_rfl
theorem Ul:FP Tryz.prog 42 1 1=true:=by kernel_rfl
theorem Y9:II Tryz.prog 37 1 false=true:=by kernel_rfl
theorem V7:KQ Tryz.prog 37 71 2=true:=by kernel_rfl
theorem Rj:FP Tryz.prog 69 2 2=true:=by kernel_rfl
theorem Y7:II Tryz.prog 71 2 true=true:=by kernel_rfl
theorem cJ:EF Tryz.prog 71=some [.int .i64 0,.int .i64 0]:=by kernel_rfl
theorem PJ:FP Tryz.prog 71 1 1=true:=by kernel_rfl
theorem GE:FP Tryz.prog 84 0 0=true:=by kernel_rfl
theorem CZ:FP Tryz.prog 84 2 16=true:=by kernel_rfl
theorem YQ:FP Tryz.prog 71 0 0=true:=by kernel_rfl
theorem gR:BU Tryz.prog 21=true:=by kernel_rfl
theorem Uk:FP Tryz.prog 42 2 2=true:=by kernel_rfl
theorem Y8:II Tryz.prog 38 1 false=true:=by kernel_rfl
theorem V6:KQ Tryz.prog 38 74 2=true:=by kernel_rfl
theorem Ur:BU Tryz.prog 45=true:=by kernel_rfl
theorem Y6:II Tryz.prog 74 2 true=true:=by kernel_rfl
theorem cI:EF Tryz.prog 74=some [.int .i64 0,.int .i64 0]:=by kernel_rfl
theorem PI:FP Tryz.prog 74 0 0=true:=by kernel_rfl
theorem YP:FP Tryz.prog 74 1 1=true:=by kernel_rfl
theorem gQ:BU Tryz.prog 22=true:=by kernel_rfl
theorem TK:BU Tryz.prog 46=true:=by kernel_rfl
theorem gO:BU Tryz.prog 24=true:=by kernel_rfl
theorem gI:BU Tryz.prog 30=true:=by kernel_rfl
theorem Rp:FP Tryz.prog 42 4 4=true:=by kernel_rfl
theorem Vr:II Tryz.prog 40 1 false=true:=by kernel_rfl
theorem UH:KQ Tryz.prog 40 103 4=true:=by kernel_rfl
theorem ZV:BU Tryz.prog 81=true:=by kernel_rfl
theorem Vx:II Tryz.prog 103 4 true=true:=by kernel_rfl
theorem Zm:EF Tryz.prog 103=some [.int .i64 0,.int .i64 0,.int .i64 0,.int .i64 0]:=by kernel_rfl
theorem P0:FP Tryz.prog 103 0 0=true:=by kernel_rfl
theorem TD:FP Tryz.prog 103 1 1=true:=by kernel_rfl
theorem TC:FP Tryz.prog 103 2 2=true:=by kernel_rfl
theorem XB:FP Tryz.prog 103 3 3=true:=by kernel_rfl
theorem fL:BU Tryz.prog 58=true:=by kernel_rfl
theorem gH:BU Tryz.prog 31=true:=by kernel_rfl
theorem Rq:FP Tryz.prog 42 0 0=true:=by kernel_rfl
theorem Np:FP Tryz.prog 84 3 23=true:=by kernel_rfl
theorem SL:II Tryz.prog 45 1 false=true:=by kernel_rfl
theorem ZD:Tb Tryz.prog 50=some ([(0,1),(1,1),(2,1),(3,1),(4,1)],[.int .i64 0,.int .i64 0,.int .i64 0,.int .i64 0,.slice none 0 0]):=by kernel_rfl
theorem Uo:M8 Tryz.prog 45=some (50,5,56,[.int .i64 0,.int .i64 0,.int .i64 0,.int .i64 0,.slice none 0 0]):=by kernel_rfl
theorem gG:BU Tryz.prog 32=true:=by kernel_rfl
theorem XQ:BU Tryz.prog 16=true:=by kernel_rfl
theorem ZC:Tb Tryz.prog 60=some ([(0,1),(1,1),(2,1)],[.int .i64 0,.int .i64 0,.slice none 0 0]):=by kernel_rfl
theorem Qp:M8 Tryz.prog 33=some (60,3,40,[.int .i64 0,.int .i64 0,.slice none 0 0]):=by kernel_rfl
theorem fK:BU Tryz.prog 60=true:=by kernel_rfl
theorem Jl:FP Tryz.prog 84 4 24=true:=by kernel_rfl
theorem gP:BU Tryz.prog 23=true:=by kernel_rfl
theorem gE:BU Tryz.prog 33=true:=by kernel_rfl
theorem PO:FP Tryz.prog 42 3 3=true:=by kernel_rfl
theorem UC:II Tryz.prog 39 1 false=true:=by kernel_rfl
theorem SY:KQ Tryz.prog 39 78 4=true:=by kernel_rfl
theorem ZP:BU Tryz.prog 96=true:=by kernel_rfl
theorem Ri:FP Tryz.prog 78 1 1=true:=by kernel_rfl
theorem PH:FP Tryz.prog 78 2 2=true:=by kernel_rfl
theorem eZ:BU Tryz.prog 84=true:=by kernel_rfl
theorem UB:II Tryz.prog 78 4 true=true:=by kernel_rfl
theorem Y3:EF Tryz.prog 78=some [.int .i64 0,.int .i64 0,.int .i64 0,.int .i64 0]:=by kernel_rfl
theorem Ui:FP Tryz.prog 78 0 0=true:=by kernel_rfl
theorem K1:FP Tryz.prog 78 3 3=true:=by kernel_rfl
theorem OD:Tb Tryz.prog 111=some ([(0,1),(1,1),(2,1),(3,1)],[.int .i64 0,.int .i64 0,.int .i64 0,.nilFunc]):=by kernel_rfl
theorem fA:BU Tryz.prog 83=true:=by kernel_rfl
theorem LC:M8 Tryz.prog 107=some (111,4,32,[.int .i64 0,.int .i64 0,.int .i64 0,.nilFunc]):=by kernel_rfl
theorem fI:BU Tryz.prog 62=true:=by kernel_rfl
theorem P6:BU Tryz.prog 104=true:=by kernel_rfl
theorem aU:BU Tryz.prog 106=true:=by kernel_rfl
theorem aV:BU Tryz.prog 105=true:=by kernel_rfl
theorem eU:BU Tryz.prog 97=true:=by kernel_rfl
theorem Vf:EF Tryz.prog 29=some [.slice none 0 0]:=by kernel_rfl
theorem eF:jN Tryz.prog 29=true:=by kernel_rfl
theorem aS:BU Tryz.prog 108=true:=by kernel_rfl
theorem aX:BU Tryz.prog 101=true:=by kernel_rfl
theorem eW:BU Tryz.prog 90=true:=by kernel_rfl
theorem ZO:BU Tryz.prog 98=true:=by kernel_rfl
theorem eY:BU Tryz.prog 85=true:=by kernel_rfl
theorem TJ:BU Tryz.prog 66=true:=by kernel_rfl
theorem TH:BU Tryz.prog 89=true:=by kernel_rfl
theorem ZU:BU Tryz.prog 86=true:=by kernel_rfl
theorem fH:BU Tryz.prog 63=true:=by kernel_rfl
theorem aK:M8 Tryz.prog 139=some (107,1,24,[.slice none 0 0]):=by kernel_rfl
theorem RC:KQ Tryz.prog 139 107 1=true:=by kernel_rfl
theorem Vw:II Tryz.prog 107 1 false=true:=by kernel_rfl
theorem Lc:KQ Tryz.prog 107 111 4=true:=by kernel_rfl
theorem iZ:Tryz.prog.underlying 3=some (.int .i64):=by kernel_rfl
theorem fB:BU Tryz.prog 82=true:=by kernel_rfl
theorem fJ:BU Tryz.prog 61=true:=by kernel_rfl
theorem W8:FP Tryz.prog 111 3 3=true:=by kernel_rfl
theorem Zs:II Tryz.prog 109 1 false=true:=by kernel_rfl
theorem Pz:FP Tryz.prog 111 0 0=true:=by kernel_rfl
theorem W9:FP Tryz.prog 111 2 2=true:=by kernel_rfl
theorem aT:BU Tryz.prog 107=true:=by kernel_rfl
theorem aY:BU Tryz.prog 100=true:=by kernel_rfl
theorem eT:BU Tryz.prog 99=true:=by kernel_rfl
theorem Rh:FP Tryz.prog 84 5 25=true:=by kernel_rfl
theorem XA:FP Tryz.prog 111 1 1=true:=by kernel_rfl
theorem eX:BU Tryz.prog 87=true:=by kernel_rfl
theorem TY:II Tryz.prog 111 4 true=true:=by kernel_rfl
theorem Zl:EF Tryz.prog 111=some [.int .i64 0,.int .i64 0,.int .i64 0,.nilFunc]:=by kernel_rfl
theorem XP:BU Tryz.prog 64=true:=by kernel_rfl
theorem fG:BU Tryz.prog 65=true:=by kernel_rfl
theorem gC:BU Tryz.prog 34=true:=by kernel_rfl
theorem XT:BU Tryz.prog 11=true:=by kernel_rfl
theorem cY:Tb Tryz.prog 78=some ([(0,1),(1,1),(2,1),(3,1)],[.int .i64 0,.int .i64 0,.int .i64 0,.int .i64 0]):=by kernel_rfl
theorem eM:M8 Tryz.prog 39=some (78,4,32,[.int .i64 0,.int .i64 0,.int .i64 0,.int .i64 0]):=by kernel_rfl
theorem Fs:KQ Tryz.prog 45 50 5=true:=by kernel_rfl
theorem Hv:FP Tryz.prog 50 3 3=true:=by kernel_rfl
theorem Hu:FP Tryz.prog 50 4 4=true:=by kernel_rfl
theorem I0:BU Tryz.prog 18=true:=by kernel_rfl
theorem Za:BU Tryz.prog 35=true:=by kernel_rfl
theorem gU:BU Tryz.prog 12=true:=by kernel_rfl
theorem eK:aH Tryz.prog 69=some [1,1,2,2]:=by kernel_rfl
theorem TL:BU Tryz.prog 41=true:=by kernel_rfl
theorem fZ:BU Tryz.prog 40=true:=by kernel_rfl
theorem fX:BU Tryz.prog 43=true:=by kernel_rfl
theorem fY:BU Tryz.prog 42=true:=by kernel_rfl
theorem fW:BU Tryz.prog 44=true:=by kernel_rfl
theorem Zc:BU Tryz.prog 20=true:=by kernel_rfl
theorem jO:BU Tryz.prog 9=true:=by kernel_rfl
theorem gK:BU Tryz.prog 28=true:=by kernel_rfl
theorem gV:BU Tryz.prog 10=true:=by kernel_rfl
theorem YV:FP Tryz.prog 50 2 2=true:=by kernel_rfl
theorem YW:FP Tryz.prog 50 1 1=true:=by kernel_rfl
theorem gN:BU Tryz.prog 25=true:=by kernel_rfl
end Go.Proofs.YtblcgjadhemlbaaGreat
