import Derived.Test.YtblcgjadhemlbaaGreatUReps
import Derived.Test.YtblcgjadhemlbaaGreatRows
namespace Go.Proofs.YtblcgjadhemlbaaGreat
open Go.RowKit
set_option linter.unusedVariables false
set_option linter.unusedSimpArgs false
theorem Y7:D9 Tryz.prog 31=some [.string ByteArray.empty,.slice none 0 0,.int .i64 0,.slice none 0 0,.slice none 0 0,.slice none 0 0,.slice none 0 0,.slice none 0 0,.slice none 0 0,.slice none 0 0,.int .i64 0]:=by kernel_rfl
theorem dB:TV Tryz.prog 98=some ([(0,1),(1,1)],[.int .i64 0,.int .i64 0]):=by kernel_rfl
theorem eV:M4 Tryz.prog 53=some (98,2,16,[.int .i64 0,.int .i64 0]):=by kernel_rfl
theorem FJ:M4 Tryz.prog 29=some (3,1,8,[.int .i64 0]):=by kernel_rfl
theorem dE:TV Tryz.prog 56=some ([(0,1),(1,1),(2,1),(3,1),(4,1),(5,1),(6,1),(7,1),(8,1),(9,1),(10,1),(11,1)],[.string ByteArray.empty,.int .i64 0,.int .i64 0,.int .i64 0,.slice none 0 0,.slice none 0 0,.int .i64 0,.int .i64 0,.int .i64 0,.int .i64 0,.int .i64 0,.slice none 0 0]):=by kernel_rfl
theorem OR:D9 Tryz.prog 56=some [.string ByteArray.empty,.int .i64 0,.int .i64 0,.int .i64 0,.slice none 0 0,.slice none 0 0,.int .i64 0,.int .i64 0,.int .i64 0,.int .i64 0,.int .i64 0,.slice none 0 0]:=by kernel_rfl
theorem Jt:IF Tryz.prog 56 12 true=true:=by kernel_rfl
theorem eY:M4 Tryz.prog 22=some (9,1,16,[.string ByteArray.empty]):=by kernel_rfl
theorem eX:M4 Tryz.prog 23=some (56,12,152,[.string ByteArray.empty,.int .i64 0,.int .i64 0,.int .i64 0,.slice none 0 0,.slice none 0 0,.int .i64 0,.int .i64 0,.int .i64 0,.int .i64 0,.int .i64 0,.slice none 0 0]):=by kernel_rfl
theorem dG:TV Tryz.prog 31=some ([(0,1),(1,1),(2,1),(3,1),(4,1),(5,1),(6,1),(7,1),(8,1),(9,1),(10,1)],[.string ByteArray.empty,.slice none 0 0,.int .i64 0,.slice none 0 0,.slice none 0 0,.slice none 0 0,.slice none 0 0,.slice none 0 0,.slice none 0 0,.slice none 0 0,.int .i64 0]):=by kernel_rfl
theorem G8:IF Tryz.prog 31 11 true=true:=by kernel_rfl
theorem gY:BQ Tryz.prog 26=true:=by kernel_rfl
theorem OT:D9 Tryz.prog 36=some [.int .i64 0,.slice none 0 0,.slice none 0 0,.slice none 0 0,.slice none 0 0,.slice none 0 0,.slice none 0 0]:=by kernel_rfl
theorem mo:Tryz.prog.follows .mixedOrders=true:=by kernel_rfl
theorem DI:FP Tryz.prog 31 3 3=true:=by kernel_rfl
theorem GO:IF Tryz.prog 23 1 false=true:=by kernel_rfl
theorem qZ:KM Tryz.prog 23 56 12=true:=by kernel_rfl
theorem HA:FP Tryz.prog 31 4 4=true:=by kernel_rfl
theorem Ju:IF Tryz.prog 24 1 false=true:=by kernel_rfl
theorem H4:KM Tryz.prog 24 67 18=true:=by kernel_rfl
theorem HS:FP Tryz.prog 31 1 1=true:=by kernel_rfl
theorem KE:IF Tryz.prog 22 1 false=true:=by kernel_rfl
theorem Jv:KM Tryz.prog 22 9 1=true:=by kernel_rfl
theorem dF:TV Tryz.prog 36=some ([(0,1),(1,1),(2,1),(3,1),(4,1),(5,1),(6,1)],[.int .i64 0,.slice none 0 0,.slice none 0 0,.slice none 0 0,.slice none 0 0,.slice none 0 0,.slice none 0 0]):=by kernel_rfl
theorem XJ:M4 Tryz.prog 32=some (29,1,24,[.slice none 0 0]):=by kernel_rfl
theorem XI:M4 Tryz.prog 34=some (69,4,24,[.int .i64 0,.int .i64 0,.bool false,.bool false]):=by kernel_rfl
theorem Gj:IF Tryz.prog 36 7 true=true:=by kernel_rfl
theorem Vp:∃e,Tryz.prog.underlying 29=some (.slice e):=⟨3,by kernel_rfl⟩
theorem D4:FP Tryz.prog 36 1 1=true:=by kernel_rfl
theorem HN:IF Tryz.prog 32 1 false=true:=by kernel_rfl
theorem Ri:FP Tryz.prog 56 5 5=true:=by kernel_rfl
theorem BP:IF Tryz.prog 29 1 false=true:=by kernel_rfl
theorem P0:BQ Tryz.prog 39=true:=by kernel_rfl
theorem FO:KM Tryz.prog 32 29 1=true:=by kernel_rfl
theorem iA:BQ Tryz.prog 15=true:=by kernel_rfl
theorem Rn:FP Tryz.prog 31 0 0=true:=by kernel_rfl
theorem QD:IF Tryz.prog 9 1 false=true:=by kernel_rfl
theorem QC:Tryz.prog.underlying 9=some .string:=by kernel_rfl
theorem Hn:BQ Tryz.prog 68=true:=by kernel_rfl
theorem Rm:FP Tryz.prog 31 2 2=true:=by kernel_rfl
theorem Ag:IF Tryz.prog 3 1 false=true:=by kernel_rfl
theorem Nv:FP Tryz.prog 31 5 5=true:=by kernel_rfl
theorem SH:IF Tryz.prog 25 1 false=true:=by kernel_rfl
theorem PW:KM Tryz.prog 25 124 7=true:=by kernel_rfl
theorem Rl:FP Tryz.prog 31 6 6=true:=by kernel_rfl
theorem Vu:IF Tryz.prog 26 1 false=true:=by kernel_rfl
theorem SS:KM Tryz.prog 26 128 5=true:=by kernel_rfl
theorem Rk:FP Tryz.prog 31 7 7=true:=by kernel_rfl
theorem Vt:IF Tryz.prog 27 1 false=true:=by kernel_rfl
theorem SR:KM Tryz.prog 27 130 7=true:=by kernel_rfl
theorem PL:FP Tryz.prog 31 8 8=true:=by kernel_rfl
theorem T9:IF Tryz.prog 28 1 false=true:=by kernel_rfl
theorem Qc:KM Tryz.prog 28 126 2=true:=by kernel_rfl
theorem Ul:FP Tryz.prog 31 9 9=true:=by kernel_rfl
theorem BG:KM Tryz.prog 29 3 1=true:=by kernel_rfl
theorem Wt:FP Tryz.prog 31 10 10=true:=by kernel_rfl
theorem JZ:BQ Tryz.prog 69=true:=by kernel_rfl
theorem Zq:D9 Tryz.prog 120=some [.map none]:=by kernel_rfl
theorem Vw:IF Tryz.prog 120 1 false=true:=by kernel_rfl
theorem jD:D9 Tryz.prog 4=some [.bool false]:=by kernel_rfl
theorem Ol:IF Tryz.prog 4 1 false=true:=by kernel_rfl
theorem Zz:TV Tryz.prog 151=some ([(0,1),(1,1)],[.string ByteArray.empty,.string ByteArray.empty]):=by kernel_rfl
theorem Zn:D9 Tryz.prog 151=some [.string ByteArray.empty,.string ByteArray.empty]:=by kernel_rfl
theorem TR:IF Tryz.prog 151 2 true=true:=by kernel_rfl
theorem fF:BQ Tryz.prog 92=true:=by kernel_rfl
theorem Vr:Tryz.prog.underlying 120=some (.map 151 4):=by kernel_rfl
theorem aN:aO Tryz.prog 151=some [3,3]:=by kernel_rfl
theorem UY:Md Tryz.prog 151 (λk:AQ=>Value.agg (AQ.v k).toArray):=Md.agg (f:=AQ.v) Tryz.underlying151 aN (λk=>rfl) (λa b=>rfl) (λk e w=>by kernel_rfl) (λa b h=>by
 simp only[AQ.v,XH,Ya,Bool.and_eq_true,Ru,decide_eq_true_eq,beq_iff_eq] at h
 simp [AQ.v,h]) (λa=>by simp [Instr.sameBits,AQ.v,Ru.2])
theorem jC:∀w,(zeroValue 4).run Tryz.prog w= .ok (.bool false) w:=λw=>by kernel_rfl
theorem fP:BQ Tryz.prog 71=true:=by kernel_rfl
theorem Pz:BQ Tryz.prog 70=true:=by kernel_rfl
theorem YZ:FP Tryz.prog 56 0 0=true:=by kernel_rfl
theorem HV:IF Tryz.prog 67 18 true=true:=by kernel_rfl
theorem OQ:D9 Tryz.prog 67=some [.string ByteArray.empty,.int .i64 0,.int .i64 0,.int .i64 0,.slice none 0 0,.slice none 0 0,.slice none 0 0,.int .i64 0,.int .i64 0,.int .i64 0,.int .i64 0,.int .i64 0,.int .i64 0,.int .i64 0,.int .i64 0,.int .i64 0,.int .i64 0,.int .i64 0]:=by kernel_rfl
theorem YW:FP Tryz.prog 67 0 0=true:=by kernel_rfl
theorem Q8:IF Tryz.prog 124 7 true=true:=by kernel_rfl
theorem Vk:D9 Tryz.prog 124=some [.string ByteArray.empty,.int .i64 0,.int .i64 0,.int .i64 0,.int .i64 0,.int .i64 0,.int .i64 0]:=by kernel_rfl
theorem XA:FP Tryz.prog 124 0 0=true:=by kernel_rfl
theorem Q7:IF Tryz.prog 126 2 true=true:=by kernel_rfl
theorem Vj:D9 Tryz.prog 126=some [.string ByteArray.empty,.int .i64 0]:=by kernel_rfl
theorem W3:FP Tryz.prog 126 0 0=true:=by kernel_rfl
theorem Q6:IF Tryz.prog 128 5 true=true:=by kernel_rfl
theorem Vi:D9 Tryz.prog 128=some [.string ByteArray.empty,.int .i64 0,.int .i64 0,.int .i64 0,.int .i64 0]:=by kernel_rfl
theorem W1:FP Tryz.prog 128 0 0=true:=by kernel_rfl
theorem Q5:IF Tryz.prog 130 7 true=true:=by kernel_rfl
theorem Vh:D9 Tryz.prog 130=some [.string ByteArray.empty,.int .i64 0,.int .i64 0,.int .i64 0,.int .i64 0,.int .i64 0,.int .i64 0]:=by kernel_rfl
theorem Wx:FP Tryz.prog 130 0 0=true:=by kernel_rfl
theorem H3:KM Tryz.prog 53 98 2=true:=by kernel_rfl
theorem OU:IF Tryz.prog 98 2 true=true:=by kernel_rfl
theorem T3:D9 Tryz.prog 98=some [.int .i64 0,.int .i64 0]:=by kernel_rfl
theorem Iy:FP Tryz.prog 98 0 0=true:=by kernel_rfl
theorem IH:FP Tryz.prog 98 1 1=true:=by kernel_rfl
theorem Px:BQ Tryz.prog 75=true:=by kernel_rfl
theorem YY:FP Tryz.prog 56 1 1=true:=by kernel_rfl
theorem Lj:FP Tryz.prog 56 2 2=true:=by kernel_rfl
theorem Rg:FP Tryz.prog 56 9 9=true:=by kernel_rfl
theorem Uh:FP Tryz.prog 56 3 3=true:=by kernel_rfl
theorem Ws:FP Tryz.prog 56 10 10=true:=by kernel_rfl
theorem YX:FP Tryz.prog 56 4 4=true:=by kernel_rfl
theorem IL:IF Tryz.prog 53 1 false=true:=by kernel_rfl
theorem Py:BQ Tryz.prog 72=true:=by kernel_rfl
theorem Rh:FP Tryz.prog 56 6 6=true:=by kernel_rfl
theorem K1:FP Tryz.prog 56 7 7=true:=by kernel_rfl
theorem XT:BQ Tryz.prog 73=true:=by kernel_rfl
theorem PK:FP Tryz.prog 56 8 8=true:=by kernel_rfl
theorem Zd:BQ Tryz.prog 74=true:=by kernel_rfl
theorem Wr:FP Tryz.prog 56 11 11=true:=by kernel_rfl
theorem cZ:IF Tryz.prog 54 1 false=true:=by kernel_rfl
theorem ZL:KM Tryz.prog 54 134 2=true:=by kernel_rfl
theorem Vv:IF Tryz.prog 134 2 true=true:=by kernel_rfl
theorem Zp:D9 Tryz.prog 134=some [.int .i64 0,.int .i64 0]:=by kernel_rfl
theorem Po:FP Tryz.prog 134 0 0=true:=by kernel_rfl
theorem Wu:FP Tryz.prog 134 1 1=true:=by kernel_rfl
theorem GD:FP Tryz.prog 67 1 1=true:=by kernel_rfl
theorem OA:Tryz.prog.underlying 3=some (.int .i64):=by kernel_rfl
theorem TQ:Tryz.prog.underlying 164=some (.int .u64):=by kernel_rfl
theorem aX:BQ Tryz.prog 111=true:=by kernel_rfl
theorem aY:BQ Tryz.prog 110=true:=by kernel_rfl
theorem K5:Tryz.prog.underlying 154=some (.int .u64):=by kernel_rfl
theorem ZX:BQ Tryz.prog 94=true:=by kernel_rfl
theorem cX:Tryz.prog.underlying 5=some (.int .u8):=by kernel_rfl
theorem aW:BQ Tryz.prog 112=true:=by kernel_rfl
theorem bD:BQ Tryz.prog 103=true:=by kernel_rfl
theorem ZW:BQ Tryz.prog 95=true:=by kernel_rfl
theorem TD:BQ Tryz.prog 88=true:=by kernel_rfl
theorem Tn:BQ Tryz.prog 102=true:=by kernel_rfl
theorem Mr:FP Tryz.prog 67 4 4=true:=by kernel_rfl
theorem Ky:FP Tryz.prog 67 5 5=true:=by kernel_rfl
theorem PJ:FP Tryz.prog 65 0 0=true:=by kernel_rfl
theorem PI:FP Tryz.prog 65 1 1=true:=by kernel_rfl
theorem ZY:BQ Tryz.prog 93=true:=by kernel_rfl
theorem JF:FP Tryz.prog 67 6 7=true:=by kernel_rfl
theorem Np:FP Tryz.prog 67 7 8=true:=by kernel_rfl
theorem Rf:FP Tryz.prog 67 8 9=true:=by kernel_rfl
theorem Kj:FP Tryz.prog 67 14 15=true:=by kernel_rfl
theorem Jx:FP Tryz.prog 67 15 16=true:=by kernel_rfl
theorem Hs:FP Tryz.prog 67 3 3=true:=by kernel_rfl
theorem Re:FP Tryz.prog 67 9 10=true:=by kernel_rfl
theorem IP:FP Tryz.prog 67 10 11=true:=by kernel_rfl
theorem JH:FP Tryz.prog 67 11 12=true:=by kernel_rfl
theorem Ns:FP Tryz.prog 67 12 13=true:=by kernel_rfl
theorem Nr:FP Tryz.prog 67 13 14=true:=by kernel_rfl
theorem JG:FP Tryz.prog 67 2 2=true:=by kernel_rfl
theorem Nq:FP Tryz.prog 67 16 17=true:=by kernel_rfl
theorem fO:BQ Tryz.prog 76=true:=by kernel_rfl
theorem fN:BQ Tryz.prog 77=true:=by kernel_rfl
theorem Zc:BQ Tryz.prog 78=true:=by kernel_rfl
theorem Qs:BQ Tryz.prog 79=true:=by kernel_rfl
theorem WD:KM Tryz.prog 158 53 1=true:=by kernel_rfl
theorem aQ:M4 Tryz.prog 158=some (53,1,24,[.slice none 0 0]):=by kernel_rfl
theorem fM:BQ Tryz.prog 80=true:=by kernel_rfl
theorem W9:FP Tryz.prog 124 1 1=true:=by kernel_rfl
theorem W8:FP Tryz.prog 124 2 2=true:=by kernel_rfl
theorem W7:FP Tryz.prog 124 3 3=true:=by kernel_rfl
theorem W6:FP Tryz.prog 124 4 4=true:=by kernel_rfl
theorem W5:FP Tryz.prog 124 5 5=true:=by kernel_rfl
theorem W4:FP Tryz.prog 124 6 6=true:=by kernel_rfl
theorem W2:FP Tryz.prog 126 1 1=true:=by kernel_rfl
theorem Sy:FP Tryz.prog 128 1 1=true:=by kernel_rfl
theorem Wz:FP Tryz.prog 128 3 3=true:=by kernel_rfl
theorem Wy:FP Tryz.prog 128 4 4=true:=by kernel_rfl
theorem bJ:iV Tryz.prog 137=some ([(0,1),(1,1),(2,1)],[.int .i64 0,.int .i64 0,.int .i64 0]):=by kernel_rfl
theorem Zo:D9 Tryz.prog 137=some [.int .i64 0,.int .i64 0,.int .i64 0]:=by kernel_rfl
theorem Zx:IF Tryz.prog 137 3 true=true:=by kernel_rfl
theorem W0:FP Tryz.prog 128 2 2=true:=by kernel_rfl
theorem bH:jY Tryz.prog 137 3 1=true:=by kernel_rfl
theorem Sx:FP Tryz.prog 130 1 1=true:=by kernel_rfl
theorem Sw:FP Tryz.prog 130 2 2=true:=by kernel_rfl
theorem Ww:FP Tryz.prog 130 3 3=true:=by kernel_rfl
theorem Wv:FP Tryz.prog 130 4 4=true:=by kernel_rfl
theorem Sv:FP Tryz.prog 130 6 6=true:=by kernel_rfl
theorem Pp:FP Tryz.prog 130 5 5=true:=by kernel_rfl
theorem gI:BQ Tryz.prog 47=true:=by kernel_rfl
theorem gH:BQ Tryz.prog 48=true:=by kernel_rfl
theorem gG:BQ Tryz.prog 49=true:=by kernel_rfl
theorem gE:BQ Tryz.prog 50=true:=by kernel_rfl
theorem gC:BQ Tryz.prog 51=true:=by kernel_rfl
theorem gB:BQ Tryz.prog 52=true:=by kernel_rfl
theorem fZ:BQ Tryz.prog 53=true:=by kernel_rfl
theorem fY:BQ Tryz.prog 54=true:=by kernel_rfl
theorem fX:BQ Tryz.prog 55=true:=by kernel_rfl
theorem Id:FP Tryz.prog 36 0 0=true:=by kernel_rfl
theorem Jm:FP Tryz.prog 36 2 2=true:=by kernel_rfl
theorem Ht:FP Tryz.prog 36 4 4=true:=by kernel_rfl
theorem KX:IF Tryz.prog 34 1 false=true:=by kernel_rfl
theorem KF:KM Tryz.prog 34 69 4=true:=by kernel_rfl
theorem Ic:FP Tryz.prog 36 5 5=true:=by kernel_rfl
theorem HR:FP Tryz.prog 36 6 6=true:=by kernel_rfl
theorem Gi:IF Tryz.prog 69 4 true=true:=by kernel_rfl
theorem SC:D9 Tryz.prog 69=some [.int .i64 0,.int .i64 0,.bool false,.bool false]:=by kernel_rfl
theorem Mq:FP Tryz.prog 69 0 0=true:=by kernel_rfl
theorem PH:FP Tryz.prog 69 1 1=true:=by kernel_rfl
theorem No:FP Tryz.prog 69 3 3=true:=by kernel_rfl
theorem ZZ:BQ Tryz.prog 91=true:=by kernel_rfl
theorem Qt:BQ Tryz.prog 36=true:=by kernel_rfl
theorem Ze:BQ Tryz.prog 67=true:=by kernel_rfl
theorem NC:BQ Tryz.prog 59=true:=by kernel_rfl
theorem Jl:FP Tryz.prog 36 3 3=true:=by kernel_rfl
theorem LG:IF Tryz.prog 33 1 false=true:=by kernel_rfl
theorem JX:KM Tryz.prog 33 60 3=true:=by kernel_rfl
theorem Ku:IF Tryz.prog 60 3 true=true:=by kernel_rfl
theorem QT:D9 Tryz.prog 60=some [.int .i64 0,.int .i64 0,.slice none 0 0]:=by kernel_rfl
theorem Nt:FP Tryz.prog 60 0 0=true:=by kernel_rfl
theorem K0:FP Tryz.prog 60 1 1=true:=by kernel_rfl
theorem Oe:BQ Tryz.prog 57=true:=by kernel_rfl
theorem Kz:FP Tryz.prog 60 2 2=true:=by kernel_rfl
theorem gO:BQ Tryz.prog 37=true:=by kernel_rfl
theorem Zf:BQ Tryz.prog 38=true:=by kernel_rfl
theorem Zh:BQ Tryz.prog 27=true:=by kernel_rfl
theorem XW:BQ Tryz.prog 14=true:=by kernel_rfl
theorem ZJ:TV Tryz.prog 42=some ([(0,1),(1,1),(2,1),(3,1),(4,1)],[.slice none 0 0,.slice none 0 0,.slice none 0 0,.slice none 0 0,.slice none 0 0]):=by kernel_rfl
theorem Vo:∃e,Tryz.prog.underlying 34=some (.slice e):=⟨69,by kernel_rfl⟩
theorem fW:BQ Tryz.prog 56=true:=by kernel_rfl
theorem T8:IF Tryz.prog 42 5 true=true:=by kernel_rfl
theorem gV:BQ Tryz.prog 29=true:=by kernel_rfl
theorem dC:TV Tryz.prog 84=some ([(0,11),(11,5),(16,7),(23,1),(24,1),(25,1)],[.string ByteArray.empty,.slice none 0 0,.int .i64 0,.slice none 0 0,.slice none 0 0,.slice none 0 0,.slice none 0 0,.slice none 0 0,.slice none 0 0,.slice none 0 0,.int .i64 0,.slice none 0 0,.slice none 0 0,.slice none 0 0,.slice none 0 0,.slice none 0 0,.int .i64 0,.slice none 0 0,.slice none 0 0,.slice none 0 0,.slice none 0 0,.slice none 0 0,.slice none 0 0,.slice none 0 0,.slice none 0 0,.slice none 0 0]):=by kernel_rfl
theorem cN:D9 Tryz.prog 84=some [.string ByteArray.empty,.slice none 0 0,.int .i64 0,.slice none 0 0,.slice none 0 0,.slice none 0 0,.slice none 0 0,.slice none 0 0,.slice none 0 0,.slice none 0 0,.int .i64 0,.slice none 0 0,.slice none 0 0,.slice none 0 0,.slice none 0 0,.slice none 0 0,.int .i64 0,.slice none 0 0,.slice none 0 0,.slice none 0 0,.slice none 0 0,.slice none 0 0,.slice none 0 0,.slice none 0 0,.slice none 0 0,.slice none 0 0]:=by kernel_rfl
theorem cY:IF Tryz.prog 84 26 true=true:=by kernel_rfl
theorem Mp:FP Tryz.prog 84 1 11=true:=by kernel_rfl
theorem Uk:FP Tryz.prog 42 1 1=true:=by kernel_rfl
theorem ZF:IF Tryz.prog 37 1 false=true:=by kernel_rfl
theorem WC:KM Tryz.prog 37 71 2=true:=by kernel_rfl
theorem Rc:FP Tryz.prog 69 2 2=true:=by kernel_rfl
theorem ZC:IF Tryz.prog 71 2 true=true:=by kernel_rfl
theorem cQ:D9 Tryz.prog 71=some [.int .i64 0,.int .i64 0]:=by kernel_rfl
theorem PG:FP Tryz.prog 71 1 1=true:=by kernel_rfl
theorem GC:FP Tryz.prog 84 0 0=true:=by kernel_rfl
theorem CU:FP Tryz.prog 84 2 16=true:=by kernel_rfl
theorem YV:FP Tryz.prog 71 0 0=true:=by kernel_rfl
theorem hO:BQ Tryz.prog 21=true:=by kernel_rfl
theorem Uj:FP Tryz.prog 42 2 2=true:=by kernel_rfl
theorem ZE:IF Tryz.prog 38 1 false=true:=by kernel_rfl
theorem WB:KM Tryz.prog 38 74 2=true:=by kernel_rfl
theorem Up:BQ Tryz.prog 45=true:=by kernel_rfl
theorem ZA:IF Tryz.prog 74 2 true=true:=by kernel_rfl
theorem cP:D9 Tryz.prog 74=some [.int .i64 0,.int .i64 0]:=by kernel_rfl
theorem PF:FP Tryz.prog 74 0 0=true:=by kernel_rfl
theorem YU:FP Tryz.prog 74 1 1=true:=by kernel_rfl
theorem hJ:BQ Tryz.prog 22=true:=by kernel_rfl
theorem TF:BQ Tryz.prog 46=true:=by kernel_rfl
theorem gZ:BQ Tryz.prog 24=true:=by kernel_rfl
theorem gU:BQ Tryz.prog 30=true:=by kernel_rfl
theorem Rj:FP Tryz.prog 42 4 4=true:=by kernel_rfl
theorem Vs:IF Tryz.prog 40 1 false=true:=by kernel_rfl
theorem UF:KM Tryz.prog 40 103 4=true:=by kernel_rfl
theorem Zb:BQ Tryz.prog 81=true:=by kernel_rfl
theorem Vy:IF Tryz.prog 103 4 true=true:=by kernel_rfl
theorem Zs:D9 Tryz.prog 103=some [.int .i64 0,.int .i64 0,.int .i64 0,.int .i64 0]:=by kernel_rfl
theorem Pr:FP Tryz.prog 103 0 0=true:=by kernel_rfl
theorem S5:FP Tryz.prog 103 1 1=true:=by kernel_rfl
theorem Sz:FP Tryz.prog 103 2 2=true:=by kernel_rfl
theorem XE:FP Tryz.prog 103 3 3=true:=by kernel_rfl
theorem fV:BQ Tryz.prog 58=true:=by kernel_rfl
theorem gT:BQ Tryz.prog 31=true:=by kernel_rfl
theorem Nu:FP Tryz.prog 42 0 0=true:=by kernel_rfl
theorem Nn:FP Tryz.prog 84 3 23=true:=by kernel_rfl
theorem SG:IF Tryz.prog 45 1 false=true:=by kernel_rfl
theorem ZI:TV Tryz.prog 50=some ([(0,1),(1,1),(2,1),(3,1),(4,1)],[.int .i64 0,.int .i64 0,.int .i64 0,.int .i64 0,.slice none 0 0]):=by kernel_rfl
theorem Un:M4 Tryz.prog 45=some (50,5,56,[.int .i64 0,.int .i64 0,.int .i64 0,.int .i64 0,.slice none 0 0]):=by kernel_rfl
theorem gR:BQ Tryz.prog 32=true:=by kernel_rfl
theorem XV:BQ Tryz.prog 16=true:=by kernel_rfl
theorem ZH:TV Tryz.prog 60=some ([(0,1),(1,1),(2,1)],[.int .i64 0,.int .i64 0,.slice none 0 0]):=by kernel_rfl
theorem Qn:M4 Tryz.prog 33=some (60,3,40,[.int .i64 0,.int .i64 0,.slice none 0 0]):=by kernel_rfl
theorem fU:BQ Tryz.prog 60=true:=by kernel_rfl
theorem Jk:FP Tryz.prog 84 4 24=true:=by kernel_rfl
theorem hE:BQ Tryz.prog 23=true:=by kernel_rfl
theorem gQ:BQ Tryz.prog 33=true:=by kernel_rfl
theorem Ui:FP Tryz.prog 42 3 3=true:=by kernel_rfl
theorem ZD:IF Tryz.prog 39 1 false=true:=by kernel_rfl
theorem WA:KM Tryz.prog 39 78 4=true:=by kernel_rfl
theorem ZV:BQ Tryz.prog 96=true:=by kernel_rfl
theorem Ug:FP Tryz.prog 78 1 1=true:=by kernel_rfl
theorem Uf:FP Tryz.prog 78 2 2=true:=by kernel_rfl
theorem fJ:BQ Tryz.prog 84=true:=by kernel_rfl
theorem Y9:IF Tryz.prog 78 4 true=true:=by kernel_rfl
theorem cO:D9 Tryz.prog 78=some [.int .i64 0,.int .i64 0,.int .i64 0,.int .i64 0]:=by kernel_rfl
theorem YT:FP Tryz.prog 78 0 0=true:=by kernel_rfl
theorem PE:FP Tryz.prog 78 3 3=true:=by kernel_rfl
theorem OC:TV Tryz.prog 111=some ([(0,1),(1,1),(2,1),(3,1)],[.int .i64 0,.int .i64 0,.int .i64 0,.nilFunc]):=by kernel_rfl
theorem fK:BQ Tryz.prog 83=true:=by kernel_rfl
theorem K9:M4 Tryz.prog 107=some (111,4,32,[.int .i64 0,.int .i64 0,.int .i64 0,.nilFunc]):=by kernel_rfl
theorem fS:BQ Tryz.prog 62=true:=by kernel_rfl
theorem P1:BQ Tryz.prog 104=true:=by kernel_rfl
theorem bB:BQ Tryz.prog 106=true:=by kernel_rfl
theorem bC:BQ Tryz.prog 105=true:=by kernel_rfl
theorem fE:BQ Tryz.prog 97=true:=by kernel_rfl
theorem Vg:D9 Tryz.prog 29=some [.slice none 0 0]:=by kernel_rfl
theorem eO:jW Tryz.prog 29=true:=by kernel_rfl
theorem aZ:BQ Tryz.prog 108=true:=by kernel_rfl
theorem bE:BQ Tryz.prog 101=true:=by kernel_rfl
theorem fG:BQ Tryz.prog 90=true:=by kernel_rfl
theorem ZU:BQ Tryz.prog 98=true:=by kernel_rfl
theorem fI:BQ Tryz.prog 85=true:=by kernel_rfl
theorem TE:BQ Tryz.prog 66=true:=by kernel_rfl
theorem TC:BQ Tryz.prog 89=true:=by kernel_rfl
theorem Za:BQ Tryz.prog 86=true:=by kernel_rfl
theorem fR:BQ Tryz.prog 63=true:=by kernel_rfl
theorem aR:M4 Tryz.prog 139=some (107,1,24,[.slice none 0 0]):=by kernel_rfl
theorem RE:KM Tryz.prog 139 107 1=true:=by kernel_rfl
theorem Vx:IF Tryz.prog 107 1 false=true:=by kernel_rfl
theorem Ld:KM Tryz.prog 107 111 4=true:=by kernel_rfl
theorem jI:Tryz.prog.underlying 3=some (.int .i64):=by kernel_rfl
theorem fL:BQ Tryz.prog 82=true:=by kernel_rfl
theorem fT:BQ Tryz.prog 61=true:=by kernel_rfl
theorem XB:FP Tryz.prog 111 3 3=true:=by kernel_rfl
theorem Zy:IF Tryz.prog 109 1 false=true:=by kernel_rfl
theorem Pq:FP Tryz.prog 111 0 0=true:=by kernel_rfl
theorem XC:FP Tryz.prog 111 2 2=true:=by kernel_rfl
theorem bA:BQ Tryz.prog 107=true:=by kernel_rfl
theorem bF:BQ Tryz.prog 100=true:=by kernel_rfl
theorem fD:BQ Tryz.prog 99=true:=by kernel_rfl
theorem Rb:FP Tryz.prog 84 5 25=true:=by kernel_rfl
theorem XD:FP Tryz.prog 111 1 1=true:=by kernel_rfl
theorem fH:BQ Tryz.prog 87=true:=by kernel_rfl
theorem TS:IF Tryz.prog 111 4 true=true:=by kernel_rfl
theorem Zr:D9 Tryz.prog 111=some [.int .i64 0,.int .i64 0,.int .i64 0,.nilFunc]:=by kernel_rfl
theorem XU:BQ Tryz.prog 64=true:=by kernel_rfl
theorem fQ:BQ Tryz.prog 65=true:=by kernel_rfl
theorem gP:BQ Tryz.prog 34=true:=by kernel_rfl
theorem XY:BQ Tryz.prog 11=true:=by kernel_rfl
theorem dD:TV Tryz.prog 78=some ([(0,1),(1,1),(2,1),(3,1)],[.int .i64 0,.int .i64 0,.int .i64 0,.int .i64 0]):=by kernel_rfl
theorem eW:M4 Tryz.prog 39=some (78,4,32,[.int .i64 0,.int .i64 0,.int .i64 0,.int .i64 0]):=by kernel_rfl
theorem HO:KM Tryz.prog 45 50 5=true:=by kernel_rfl
theorem Ib:FP Tryz.prog 50 3 3=true:=by kernel_rfl
theorem Iz:FP Tryz.prog 50 4 4=true:=by kernel_rfl
theorem Iw:BQ Tryz.prog 18=true:=by kernel_rfl
theorem Zg:BQ Tryz.prog 35=true:=by kernel_rfl
theorem XX:BQ Tryz.prog 12=true:=by kernel_rfl
theorem eU:aO Tryz.prog 69=some [1,1,2,2]:=by kernel_rfl
theorem TG:BQ Tryz.prog 41=true:=by kernel_rfl
theorem gN:BQ Tryz.prog 40=true:=by kernel_rfl
theorem gK:BQ Tryz.prog 43=true:=by kernel_rfl
theorem gL:BQ Tryz.prog 42=true:=by kernel_rfl
theorem gJ:BQ Tryz.prog 44=true:=by kernel_rfl
theorem Zi:BQ Tryz.prog 20=true:=by kernel_rfl
theorem jX:BQ Tryz.prog 9=true:=by kernel_rfl
theorem gW:BQ Tryz.prog 28=true:=by kernel_rfl
theorem iB:BQ Tryz.prog 10=true:=by kernel_rfl
theorem Of:BQ Tryz.prog 13=true:=by kernel_rfl
end Go.Proofs.YtblcgjadhemlbaaGreat
