import Derived.Test.YtblcgjadhemlbaaGreatQReps
import Derived.Test.YtblcgjadhemlbaaGreatRows
namespace Go.Proofs.YtblcgjadhemlbaaGreat
set_option linter.unusedSimpArgs false
set_option linter.unusedVariables false
open Go.RowKit
theorem XE:EC Tryz.prog 31=some [.string ByteArray.empty,.slice none 0 0,.int .i64 0,.slice none 0 0,.slice none 0 0,.slice none 0 0,.slice none 0 0,.slice none 0 0,.slice none 0 0,.slice none 0 0,.int .i64 0]:=by kernel_rfl
theorem ZS:R4 Tryz.prog 98=some ([(0,1),(1,1)],[.int .i64 0,.int .i64 0]):=by kernel_rfl
theorem Z8:Mb Tryz.prog 53=some (98,2,16,[.int .i64 0,.int .i64 0]):=by kernel_rfl
theorem E4:Mb Tryz.prog 29=some (3,1,8,[.int .i64 0]):=by kernel_rfl
theorem ZV:R4 Tryz.prog 56=some ([(0,1),(1,1),(2,1),(3,1),(4,1),(5,1),(6,1),(7,1),(8,1),(9,1),(10,1),(11,1)],[.string ByteArray.empty,.int .i64 0,.int .i64 0,.int .i64 0,.slice none 0 0,.slice none 0 0,.int .i64 0,.int .i64 0,.int .i64 0,.int .i64 0,.int .i64 0,.slice none 0 0]):=by kernel_rfl
theorem Nv:EC Tryz.prog 56=some [.string ByteArray.empty,.int .i64 0,.int .i64 0,.int .i64 0,.slice none 0 0,.slice none 0 0,.int .i64 0,.int .i64 0,.int .i64 0,.int .i64 0,.int .i64 0,.slice none 0 0]:=by kernel_rfl
theorem JZ:Hq Tryz.prog 56 12 true=true:=by kernel_rfl
theorem aB:Mb Tryz.prog 22=some (9,1,16,[.string ByteArray.empty]):=by kernel_rfl
theorem aA:Mb Tryz.prog 23=some (56,12,152,[.string ByteArray.empty,.int .i64 0,.int .i64 0,.int .i64 0,.slice none 0 0,.slice none 0 0,.int .i64 0,.int .i64 0,.int .i64 0,.int .i64 0,.int .i64 0,.slice none 0 0]):=by kernel_rfl
theorem ZX:R4 Tryz.prog 31=some ([(0,1),(1,1),(2,1),(3,1),(4,1),(5,1),(6,1),(7,1),(8,1),(9,1),(10,1)],[.string ByteArray.empty,.slice none 0 0,.int .i64 0,.slice none 0 0,.slice none 0 0,.slice none 0 0,.slice none 0 0,.slice none 0 0,.slice none 0 0,.slice none 0 0,.int .i64 0]):=by kernel_rfl
theorem Gp:Hq Tryz.prog 31 11 true=true:=by kernel_rfl
theorem bV:BR Tryz.prog 26=true:=by kernel_rfl
theorem Nw:EC Tryz.prog 36=some [.int .i64 0,.slice none 0 0,.slice none 0 0,.slice none 0 0,.slice none 0 0,.slice none 0 0,.slice none 0 0]:=by kernel_rfl
theorem mo:Tryz.prog.follows .mixedOrders=true:=by kernel_rfl
theorem DK:FB Tryz.prog 31 3 3=true:=by kernel_rfl
theorem F9:Hq Tryz.prog 23 1 false=true:=by kernel_rfl
theorem FA:Jy Tryz.prog 23 56 12=true:=by kernel_rfl
theorem Ft:FB Tryz.prog 31 4 4=true:=by kernel_rfl
theorem Ir:Hq Tryz.prog 24 1 false=true:=by kernel_rfl
theorem G4:Jy Tryz.prog 24 67 18=true:=by kernel_rfl
theorem HS:FB Tryz.prog 31 1 1=true:=by kernel_rfl
theorem J6:Hq Tryz.prog 22 1 false=true:=by kernel_rfl
theorem Js:Jy Tryz.prog 22 9 1=true:=by kernel_rfl
theorem ZW:R4 Tryz.prog 36=some ([(0,1),(1,1),(2,1),(3,1),(4,1),(5,1),(6,1)],[.int .i64 0,.slice none 0 0,.slice none 0 0,.slice none 0 0,.slice none 0 0,.slice none 0 0,.slice none 0 0]):=by kernel_rfl
theorem Ve:Mb Tryz.prog 32=some (29,1,24,[.slice none 0 0]):=by kernel_rfl
theorem Vd:Mb Tryz.prog 34=some (69,4,24,[.int .i64 0,.int .i64 0,.bool false,.bool false]):=by kernel_rfl
theorem Gn:Hq Tryz.prog 36 7 true=true:=by kernel_rfl
theorem UG:∃e,Tryz.prog.underlying 29=some (.slice e):=⟨3,by kernel_rfl⟩
theorem D3:FB Tryz.prog 36 1 1=true:=by kernel_rfl
theorem G3:Hq Tryz.prog 32 1 false=true:=by kernel_rfl
theorem Qb:FB Tryz.prog 56 5 5=true:=by kernel_rfl
theorem BY:Hq Tryz.prog 29 1 false=true:=by kernel_rfl
theorem PB:BR Tryz.prog 39=true:=by kernel_rfl
theorem E8:Jy Tryz.prog 32 29 1=true:=by kernel_rfl
theorem bW:BR Tryz.prog 15=true:=by kernel_rfl
theorem Qg:FB Tryz.prog 31 0 0=true:=by kernel_rfl
theorem PR:Hq Tryz.prog 9 1 false=true:=by kernel_rfl
theorem PQ:Tryz.prog.underlying 9=some .string:=by kernel_rfl
theorem HN:BR Tryz.prog 68=true:=by kernel_rfl
theorem Qf:FB Tryz.prog 31 2 2=true:=by kernel_rfl
theorem Ae:Hq Tryz.prog 3 1 false=true:=by kernel_rfl
theorem NR:FB Tryz.prog 31 5 5=true:=by kernel_rfl
theorem Q6:Hq Tryz.prog 25 1 false=true:=by kernel_rfl
theorem Ok:Jy Tryz.prog 25 124 7=true:=by kernel_rfl
theorem Qe:FB Tryz.prog 31 6 6=true:=by kernel_rfl
theorem UK:Hq Tryz.prog 26 1 false=true:=by kernel_rfl
theorem RG:Jy Tryz.prog 26 128 5=true:=by kernel_rfl
theorem Qd:FB Tryz.prog 31 7 7=true:=by kernel_rfl
theorem UJ:Hq Tryz.prog 27 1 false=true:=by kernel_rfl
theorem RE:Jy Tryz.prog 27 130 7=true:=by kernel_rfl
theorem Ob:FB Tryz.prog 31 8 8=true:=by kernel_rfl
theorem Si:Hq Tryz.prog 28 1 false=true:=by kernel_rfl
theorem Pk:Jy Tryz.prog 28 126 2=true:=by kernel_rfl
theorem TL:FB Tryz.prog 31 9 9=true:=by kernel_rfl
theorem BP:Jy Tryz.prog 29 3 1=true:=by kernel_rfl
theorem VG:FB Tryz.prog 31 10 10=true:=by kernel_rfl
theorem JG:BR Tryz.prog 69=true:=by kernel_rfl
theorem X2:EC Tryz.prog 120=some [.map none]:=by kernel_rfl
theorem UM:Hq Tryz.prog 120 1 false=true:=by kernel_rfl
theorem cU:EC Tryz.prog 4=some [.bool false]:=by kernel_rfl
theorem Ng:Hq Tryz.prog 4 1 false=true:=by kernel_rfl
theorem YA:R4 Tryz.prog 151=some ([(0,1),(1,1)],[.string ByteArray.empty,.string ByteArray.empty]):=by kernel_rfl
theorem Xz:EC Tryz.prog 151=some [.string ByteArray.empty,.string ByteArray.empty]:=by kernel_rfl
theorem Rz:Hq Tryz.prog 151 2 true=true:=by kernel_rfl
theorem aI:BR Tryz.prog 92=true:=by kernel_rfl
theorem UI:Tryz.prog.underlying 120=some (.map 151 4):=by kernel_rfl
theorem YZ:Ya Tryz.prog 151=some [3,3]:=by kernel_rfl
theorem S5:MD Tryz.prog 151 (λk:AQ=>Value.agg (AQ.v k).toArray):=MD.agg (f:=AQ.v) Tryz.underlying151 YZ (λk=>rfl) (λa b=>rfl) (λk e w=>by kernel_rfl) (λa b h=>by
 simp only[AQ.v,Qh,V9,Bool.and_eq_true,Qm,decide_eq_true_eq,beq_iff_eq] at h
 simp [AQ.v,h]) (λa=>by simp [Instr.sameBits,AQ.v,Qm.2])
theorem cT:∀w,(zeroValue 4).run Tryz.prog w= .ok (.bool false) w:=λw=>by kernel_rfl
theorem aS:BR Tryz.prog 71=true:=by kernel_rfl
theorem O9:BR Tryz.prog 70=true:=by kernel_rfl
theorem Wi:FB Tryz.prog 56 0 0=true:=by kernel_rfl
theorem F8:Hq Tryz.prog 67 18 true=true:=by kernel_rfl
theorem M0:EC Tryz.prog 67=some [.string ByteArray.empty,.int .i64 0,.int .i64 0,.int .i64 0,.slice none 0 0,.slice none 0 0,.slice none 0 0,.int .i64 0,.int .i64 0,.int .i64 0,.int .i64 0,.int .i64 0,.int .i64 0,.int .i64 0,.int .i64 0,.int .i64 0,.int .i64 0,.int .i64 0]:=by kernel_rfl
theorem Wf:FB Tryz.prog 67 0 0=true:=by kernel_rfl
theorem QC:Hq Tryz.prog 124 7 true=true:=by kernel_rfl
theorem UD:EC Tryz.prog 124=some [.string ByteArray.empty,.int .i64 0,.int .i64 0,.int .i64 0,.int .i64 0,.int .i64 0,.int .i64 0]:=by kernel_rfl
theorem VX:FB Tryz.prog 124 0 0=true:=by kernel_rfl
theorem QB:Hq Tryz.prog 126 2 true=true:=by kernel_rfl
theorem UC:EC Tryz.prog 126=some [.string ByteArray.empty,.int .i64 0]:=by kernel_rfl
theorem VQ:FB Tryz.prog 126 0 0=true:=by kernel_rfl
theorem QA:Hq Tryz.prog 128 5 true=true:=by kernel_rfl
theorem UB:EC Tryz.prog 128=some [.string ByteArray.empty,.int .i64 0,.int .i64 0,.int .i64 0,.int .i64 0]:=by kernel_rfl
theorem VO:FB Tryz.prog 128 0 0=true:=by kernel_rfl
theorem P9:Hq Tryz.prog 130 7 true=true:=by kernel_rfl
theorem UA:EC Tryz.prog 130=some [.string ByteArray.empty,.int .i64 0,.int .i64 0,.int .i64 0,.int .i64 0,.int .i64 0,.int .i64 0]:=by kernel_rfl
theorem VK:FB Tryz.prog 130 0 0=true:=by kernel_rfl
theorem HZ:Jy Tryz.prog 53 98 2=true:=by kernel_rfl
theorem Ny:Hq Tryz.prog 98 2 true=true:=by kernel_rfl
theorem Se:EC Tryz.prog 98=some [.int .i64 0,.int .i64 0]:=by kernel_rfl
theorem Ic:FB Tryz.prog 98 0 0=true:=by kernel_rfl
theorem Hu:FB Tryz.prog 98 1 1=true:=by kernel_rfl
theorem O7:BR Tryz.prog 75=true:=by kernel_rfl
theorem Wh:FB Tryz.prog 56 1 1=true:=by kernel_rfl
theorem K9:FB Tryz.prog 56 2 2=true:=by kernel_rfl
theorem QZ:FB Tryz.prog 56 9 9=true:=by kernel_rfl
theorem TI:FB Tryz.prog 56 3 3=true:=by kernel_rfl
theorem VF:FB Tryz.prog 56 10 10=true:=by kernel_rfl
theorem Wg:FB Tryz.prog 56 4 4=true:=by kernel_rfl
theorem Hz:Hq Tryz.prog 53 1 false=true:=by kernel_rfl
theorem O8:BR Tryz.prog 72=true:=by kernel_rfl
theorem Qa:FB Tryz.prog 56 6 6=true:=by kernel_rfl
theorem KY:FB Tryz.prog 56 7 7=true:=by kernel_rfl
theorem Vj:BR Tryz.prog 73=true:=by kernel_rfl
theorem Oa:FB Tryz.prog 56 8 8=true:=by kernel_rfl
theorem Xl:BR Tryz.prog 74=true:=by kernel_rfl
theorem VE:FB Tryz.prog 56 11 11=true:=by kernel_rfl
theorem ZQ:Hq Tryz.prog 54 1 false=true:=by kernel_rfl
theorem XS:Jy Tryz.prog 54 134 2=true:=by kernel_rfl
theorem UL:Hq Tryz.prog 134 2 true=true:=by kernel_rfl
theorem X1:EC Tryz.prog 134=some [.int .i64 0,.int .i64 0]:=by kernel_rfl
theorem O2:FB Tryz.prog 134 0 0=true:=by kernel_rfl
theorem VH:FB Tryz.prog 134 1 1=true:=by kernel_rfl
theorem Fs:FB Tryz.prog 67 1 1=true:=by kernel_rfl
theorem Nf:Tryz.prog.underlying 3=some (.int .i64):=by kernel_rfl
theorem Ry:Tryz.prog.underlying 164=some (.int .u64):=by kernel_rfl
theorem Yk:BR Tryz.prog 111=true:=by kernel_rfl
theorem Yl:BR Tryz.prog 110=true:=by kernel_rfl
theorem Kc:Tryz.prog.underlying 154=some (.int .u64):=by kernel_rfl
theorem Xf:BR Tryz.prog 94=true:=by kernel_rfl
theorem ZO:Tryz.prog.underlying 5=some (.int .u8):=by kernel_rfl
theorem Yj:BR Tryz.prog 112=true:=by kernel_rfl
theorem Yq:BR Tryz.prog 103=true:=by kernel_rfl
theorem Xe:BR Tryz.prog 95=true:=by kernel_rfl
theorem Rn:BR Tryz.prog 88=true:=by kernel_rfl
theorem SQ:BR Tryz.prog 102=true:=by kernel_rfl
theorem MO:FB Tryz.prog 67 4 4=true:=by kernel_rfl
theorem KV:FB Tryz.prog 67 5 5=true:=by kernel_rfl
theorem OZ:FB Tryz.prog 65 0 0=true:=by kernel_rfl
theorem OY:FB Tryz.prog 65 1 1=true:=by kernel_rfl
theorem Xg:BR Tryz.prog 93=true:=by kernel_rfl
theorem Ix:FB Tryz.prog 67 6 7=true:=by kernel_rfl
theorem K8:FB Tryz.prog 67 7 8=true:=by kernel_rfl
theorem QY:FB Tryz.prog 67 8 9=true:=by kernel_rfl
theorem KD:FB Tryz.prog 67 14 15=true:=by kernel_rfl
theorem Jb:FB Tryz.prog 67 15 16=true:=by kernel_rfl
theorem HR:FB Tryz.prog 67 3 3=true:=by kernel_rfl
theorem QX:FB Tryz.prog 67 9 10=true:=by kernel_rfl
theorem H2:FB Tryz.prog 67 10 11=true:=by kernel_rfl
theorem Iy:FB Tryz.prog 67 11 12=true:=by kernel_rfl
theorem NO:FB Tryz.prog 67 12 13=true:=by kernel_rfl
theorem NN:FB Tryz.prog 67 13 14=true:=by kernel_rfl
theorem Id:FB Tryz.prog 67 2 2=true:=by kernel_rfl
theorem NM:FB Tryz.prog 67 16 17=true:=by kernel_rfl
theorem aR:BR Tryz.prog 76=true:=by kernel_rfl
theorem aQ:BR Tryz.prog 77=true:=by kernel_rfl
theorem Xk:BR Tryz.prog 78=true:=by kernel_rfl
theorem P0:BR Tryz.prog 79=true:=by kernel_rfl
theorem Ua:Jy Tryz.prog 158 53 1=true:=by kernel_rfl
theorem Yc:Mb Tryz.prog 158=some (53,1,24,[.slice none 0 0]):=by kernel_rfl
theorem aP:BR Tryz.prog 80=true:=by kernel_rfl
theorem VW:FB Tryz.prog 124 1 1=true:=by kernel_rfl
theorem VV:FB Tryz.prog 124 2 2=true:=by kernel_rfl
theorem VU:FB Tryz.prog 124 3 3=true:=by kernel_rfl
theorem VT:FB Tryz.prog 124 4 4=true:=by kernel_rfl
theorem VS:FB Tryz.prog 124 5 5=true:=by kernel_rfl
theorem VR:FB Tryz.prog 124 6 6=true:=by kernel_rfl
theorem VP:FB Tryz.prog 126 1 1=true:=by kernel_rfl
theorem Rh:FB Tryz.prog 128 1 1=true:=by kernel_rfl
theorem VM:FB Tryz.prog 128 3 3=true:=by kernel_rfl
theorem VL:FB Tryz.prog 128 4 4=true:=by kernel_rfl
theorem Yv:cP Tryz.prog 137=some ([(0,1),(1,1),(2,1)],[.int .i64 0,.int .i64 0,.int .i64 0]):=by kernel_rfl
theorem X0:EC Tryz.prog 137=some [.int .i64 0,.int .i64 0,.int .i64 0]:=by kernel_rfl
theorem X8:Hq Tryz.prog 137 3 true=true:=by kernel_rfl
theorem VN:FB Tryz.prog 128 2 2=true:=by kernel_rfl
theorem Yt:dP Tryz.prog 137 3 1=true:=by kernel_rfl
theorem Rg:FB Tryz.prog 130 1 1=true:=by kernel_rfl
theorem Rf:FB Tryz.prog 130 2 2=true:=by kernel_rfl
theorem VJ:FB Tryz.prog 130 3 3=true:=by kernel_rfl
theorem VI:FB Tryz.prog 130 4 4=true:=by kernel_rfl
theorem Re:FB Tryz.prog 130 6 6=true:=by kernel_rfl
theorem O3:FB Tryz.prog 130 5 5=true:=by kernel_rfl
theorem bI:BR Tryz.prog 47=true:=by kernel_rfl
theorem bH:BR Tryz.prog 48=true:=by kernel_rfl
theorem bG:BR Tryz.prog 49=true:=by kernel_rfl
theorem bF:BR Tryz.prog 50=true:=by kernel_rfl
theorem bE:BR Tryz.prog 51=true:=by kernel_rfl
theorem bD:BR Tryz.prog 52=true:=by kernel_rfl
theorem bC:BR Tryz.prog 53=true:=by kernel_rfl
theorem bB:BR Tryz.prog 54=true:=by kernel_rfl
theorem bA:BR Tryz.prog 55=true:=by kernel_rfl
theorem ID:FB Tryz.prog 36 0 0=true:=by kernel_rfl
theorem JS:FB Tryz.prog 36 2 2=true:=by kernel_rfl
theorem Fb:FB Tryz.prog 36 4 4=true:=by kernel_rfl
theorem IQ:Hq Tryz.prog 34 1 false=true:=by kernel_rfl
theorem IL:Jy Tryz.prog 34 69 4=true:=by kernel_rfl
theorem Jz:FB Tryz.prog 36 5 5=true:=by kernel_rfl
theorem I0:FB Tryz.prog 36 6 6=true:=by kernel_rfl
theorem Eo:Hq Tryz.prog 69 4 true=true:=by kernel_rfl
theorem Pd:EC Tryz.prog 69=some [.int .i64 0,.int .i64 0,.bool false,.bool false]:=by kernel_rfl
theorem KU:FB Tryz.prog 69 0 0=true:=by kernel_rfl
theorem OX:FB Tryz.prog 69 1 1=true:=by kernel_rfl
theorem NL:FB Tryz.prog 69 3 3=true:=by kernel_rfl
theorem Xh:BR Tryz.prog 91=true:=by kernel_rfl
theorem P1:BR Tryz.prog 36=true:=by kernel_rfl
theorem Xm:BR Tryz.prog 67=true:=by kernel_rfl
theorem Mj:BR Tryz.prog 59=true:=by kernel_rfl
theorem JR:FB Tryz.prog 36 3 3=true:=by kernel_rfl
theorem Kk:Hq Tryz.prog 33 1 false=true:=by kernel_rfl
theorem JF:Jy Tryz.prog 33 60 3=true:=by kernel_rfl
theorem KP:Hq Tryz.prog 60 3 true=true:=by kernel_rfl
theorem Pe:EC Tryz.prog 60=some [.int .i64 0,.int .i64 0,.slice none 0 0]:=by kernel_rfl
theorem NP:FB Tryz.prog 60 0 0=true:=by kernel_rfl
theorem KX:FB Tryz.prog 60 1 1=true:=by kernel_rfl
theorem N5:BR Tryz.prog 57=true:=by kernel_rfl
theorem KW:FB Tryz.prog 60 2 2=true:=by kernel_rfl
theorem bN:BR Tryz.prog 37=true:=by kernel_rfl
theorem Xn:BR Tryz.prog 38=true:=by kernel_rfl
theorem Xp:BR Tryz.prog 27=true:=by kernel_rfl
theorem Vm:BR Tryz.prog 14=true:=by kernel_rfl
theorem XP:R4 Tryz.prog 42=some ([(0,1),(1,1),(2,1),(3,1),(4,1)],[.slice none 0 0,.slice none 0 0,.slice none 0 0,.slice none 0 0,.slice none 0 0]):=by kernel_rfl
theorem UF:∃e,Tryz.prog.underlying 34=some (.slice e):=⟨69,by kernel_rfl⟩
theorem aZ:BR Tryz.prog 56=true:=by kernel_rfl
theorem Sh:Hq Tryz.prog 42 5 true=true:=by kernel_rfl
theorem bT:BR Tryz.prog 29=true:=by kernel_rfl
theorem ZT:R4 Tryz.prog 84=some ([(0,11),(11,5),(16,7),(23,1),(24,1),(25,1)],[.string ByteArray.empty,.slice none 0 0,.int .i64 0,.slice none 0 0,.slice none 0 0,.slice none 0 0,.slice none 0 0,.slice none 0 0,.slice none 0 0,.slice none 0 0,.int .i64 0,.slice none 0 0,.slice none 0 0,.slice none 0 0,.slice none 0 0,.slice none 0 0,.int .i64 0,.slice none 0 0,.slice none 0 0,.slice none 0 0,.slice none 0 0,.slice none 0 0,.slice none 0 0,.slice none 0 0,.slice none 0 0,.slice none 0 0]):=by kernel_rfl
theorem ZE:EC Tryz.prog 84=some [.string ByteArray.empty,.slice none 0 0,.int .i64 0,.slice none 0 0,.slice none 0 0,.slice none 0 0,.slice none 0 0,.slice none 0 0,.slice none 0 0,.slice none 0 0,.int .i64 0,.slice none 0 0,.slice none 0 0,.slice none 0 0,.slice none 0 0,.slice none 0 0,.int .i64 0,.slice none 0 0,.slice none 0 0,.slice none 0 0,.slice none 0 0,.slice none 0 0,.slice none 0 0,.slice none 0 0,.slice none 0 0,.slice none 0 0]:=by kernel_rfl
theorem ZP:Hq Tryz.prog 84 26 true=true:=by kernel_rfl
theorem MN:FB Tryz.prog 84 1 11=true:=by kernel_rfl
theorem MQ:FB Tryz.prog 42 1 1=true:=by kernel_rfl
theorem Pi:Hq Tryz.prog 37 1 false=true:=by kernel_rfl
theorem Oj:Jy Tryz.prog 37 71 2=true:=by kernel_rfl
theorem OV:FB Tryz.prog 69 2 2=true:=by kernel_rfl
theorem XI:Hq Tryz.prog 71 2 true=true:=by kernel_rfl
theorem ZH:EC Tryz.prog 71=some [.int .i64 0,.int .i64 0]:=by kernel_rfl
theorem NK:FB Tryz.prog 71 1 1=true:=by kernel_rfl
theorem Fq:FB Tryz.prog 84 0 0=true:=by kernel_rfl
theorem CV:FB Tryz.prog 84 2 16=true:=by kernel_rfl
theorem TH:FB Tryz.prog 71 0 0=true:=by kernel_rfl
theorem Xt:BR Tryz.prog 21=true:=by kernel_rfl
theorem NQ:FB Tryz.prog 42 2 2=true:=by kernel_rfl
theorem Q5:Hq Tryz.prog 38 1 false=true:=by kernel_rfl
theorem Pj:Jy Tryz.prog 38 74 2=true:=by kernel_rfl
theorem TP:BR Tryz.prog 45=true:=by kernel_rfl
theorem XH:Hq Tryz.prog 74 2 true=true:=by kernel_rfl
theorem ZG:EC Tryz.prog 74=some [.int .i64 0,.int .i64 0]:=by kernel_rfl
theorem NJ:FB Tryz.prog 74 0 0=true:=by kernel_rfl
theorem TG:FB Tryz.prog 74 1 1=true:=by kernel_rfl
theorem Xs:BR Tryz.prog 22=true:=by kernel_rfl
theorem Rp:BR Tryz.prog 46=true:=by kernel_rfl
theorem Xq:BR Tryz.prog 24=true:=by kernel_rfl
theorem bS:BR Tryz.prog 30=true:=by kernel_rfl
theorem TJ:FB Tryz.prog 42 4 4=true:=by kernel_rfl
theorem XJ:Hq Tryz.prog 40 1 false=true:=by kernel_rfl
theorem UY:Jy Tryz.prog 40 103 4=true:=by kernel_rfl
theorem Xj:BR Tryz.prog 81=true:=by kernel_rfl
theorem UO:Hq Tryz.prog 103 4 true=true:=by kernel_rfl
theorem X4:EC Tryz.prog 103=some [.int .i64 0,.int .i64 0,.int .i64 0,.int .i64 0]:=by kernel_rfl
theorem O5:FB Tryz.prog 103 0 0=true:=by kernel_rfl
theorem Rj:FB Tryz.prog 103 1 1=true:=by kernel_rfl
theorem Ri:FB Tryz.prog 103 2 2=true:=by kernel_rfl
theorem Vb:FB Tryz.prog 103 3 3=true:=by kernel_rfl
theorem aY:BR Tryz.prog 58=true:=by kernel_rfl
theorem bR:BR Tryz.prog 31=true:=by kernel_rfl
theorem Qc:FB Tryz.prog 42 0 0=true:=by kernel_rfl
theorem NI:FB Tryz.prog 84 3 23=true:=by kernel_rfl
theorem Q4:Hq Tryz.prog 45 1 false=true:=by kernel_rfl
theorem XN:R4 Tryz.prog 50=some ([(0,1),(1,1),(2,1),(3,1),(4,1)],[.int .i64 0,.int .i64 0,.int .i64 0,.int .i64 0,.slice none 0 0]):=by kernel_rfl
theorem TN:Mb Tryz.prog 45=some (50,5,56,[.int .i64 0,.int .i64 0,.int .i64 0,.int .i64 0,.slice none 0 0]):=by kernel_rfl
theorem bQ:BR Tryz.prog 32=true:=by kernel_rfl
theorem Vl:BR Tryz.prog 16=true:=by kernel_rfl
theorem XM:R4 Tryz.prog 60=some ([(0,1),(1,1),(2,1)],[.int .i64 0,.int .i64 0,.slice none 0 0]):=by kernel_rfl
theorem Px:Mb Tryz.prog 33=some (60,3,40,[.int .i64 0,.int .i64 0,.slice none 0 0]):=by kernel_rfl
theorem aX:BR Tryz.prog 60=true:=by kernel_rfl
theorem JQ:FB Tryz.prog 84 4 24=true:=by kernel_rfl
theorem Xr:BR Tryz.prog 23=true:=by kernel_rfl
theorem bP:BR Tryz.prog 33=true:=by kernel_rfl
theorem TK:FB Tryz.prog 42 3 3=true:=by kernel_rfl
theorem XK:Hq Tryz.prog 39 1 false=true:=by kernel_rfl
theorem UZ:Jy Tryz.prog 39 78 4=true:=by kernel_rfl
theorem Xd:BR Tryz.prog 96=true:=by kernel_rfl
theorem TF:FB Tryz.prog 78 1 1=true:=by kernel_rfl
theorem TE:FB Tryz.prog 78 2 2=true:=by kernel_rfl
theorem aM:BR Tryz.prog 84=true:=by kernel_rfl
theorem XG:Hq Tryz.prog 78 4 true=true:=by kernel_rfl
theorem ZF:EC Tryz.prog 78=some [.int .i64 0,.int .i64 0,.int .i64 0,.int .i64 0]:=by kernel_rfl
theorem We:FB Tryz.prog 78 0 0=true:=by kernel_rfl
theorem OU:FB Tryz.prog 78 3 3=true:=by kernel_rfl
theorem Ni:R4 Tryz.prog 111=some ([(0,1),(1,1),(2,1),(3,1)],[.int .i64 0,.int .i64 0,.int .i64 0,.nilFunc]):=by kernel_rfl
theorem aN:BR Tryz.prog 83=true:=by kernel_rfl
theorem Kg:Mb Tryz.prog 107=some (111,4,32,[.int .i64 0,.int .i64 0,.int .i64 0,.nilFunc]):=by kernel_rfl
theorem aV:BR Tryz.prog 62=true:=by kernel_rfl
theorem PC:BR Tryz.prog 104=true:=by kernel_rfl
theorem Yo:BR Tryz.prog 106=true:=by kernel_rfl
theorem Yp:BR Tryz.prog 105=true:=by kernel_rfl
theorem aH:BR Tryz.prog 97=true:=by kernel_rfl
theorem T9:EC Tryz.prog 29=some [.slice none 0 0]:=by kernel_rfl
theorem Z6:dN Tryz.prog 29=true:=by kernel_rfl
theorem Ym:BR Tryz.prog 108=true:=by kernel_rfl
theorem Yr:BR Tryz.prog 101=true:=by kernel_rfl
theorem aJ:BR Tryz.prog 90=true:=by kernel_rfl
theorem Xc:BR Tryz.prog 98=true:=by kernel_rfl
theorem aL:BR Tryz.prog 85=true:=by kernel_rfl
theorem Ro:BR Tryz.prog 66=true:=by kernel_rfl
theorem Rm:BR Tryz.prog 89=true:=by kernel_rfl
theorem Xi:BR Tryz.prog 86=true:=by kernel_rfl
theorem aU:BR Tryz.prog 63=true:=by kernel_rfl
theorem Yd:Mb Tryz.prog 139=some (107,1,24,[.slice none 0 0]):=by kernel_rfl
theorem QH:Jy Tryz.prog 139 107 1=true:=by kernel_rfl
theorem UN:Hq Tryz.prog 107 1 false=true:=by kernel_rfl
theorem K3:Jy Tryz.prog 107 111 4=true:=by kernel_rfl
theorem cZ:Tryz.prog.underlying 3=some (.int .i64):=by kernel_rfl
theorem aO:BR Tryz.prog 82=true:=by kernel_rfl
theorem aW:BR Tryz.prog 61=true:=by kernel_rfl
theorem VY:FB Tryz.prog 111 3 3=true:=by kernel_rfl
theorem X9:Hq Tryz.prog 109 1 false=true:=by kernel_rfl
theorem O4:FB Tryz.prog 111 0 0=true:=by kernel_rfl
theorem VZ:FB Tryz.prog 111 2 2=true:=by kernel_rfl
theorem Yn:BR Tryz.prog 107=true:=by kernel_rfl
theorem Ys:BR Tryz.prog 100=true:=by kernel_rfl
theorem aG:BR Tryz.prog 99=true:=by kernel_rfl
theorem QV:FB Tryz.prog 84 5 25=true:=by kernel_rfl
theorem Va:FB Tryz.prog 111 1 1=true:=by kernel_rfl
theorem aK:BR Tryz.prog 87=true:=by kernel_rfl
theorem R0:Hq Tryz.prog 111 4 true=true:=by kernel_rfl
theorem X3:EC Tryz.prog 111=some [.int .i64 0,.int .i64 0,.int .i64 0,.nilFunc]:=by kernel_rfl
theorem Vk:BR Tryz.prog 64=true:=by kernel_rfl
theorem aT:BR Tryz.prog 65=true:=by kernel_rfl
theorem bO:BR Tryz.prog 34=true:=by kernel_rfl
theorem Vn:BR Tryz.prog 11=true:=by kernel_rfl
theorem ZU:R4 Tryz.prog 78=some ([(0,1),(1,1),(2,1),(3,1)],[.int .i64 0,.int .i64 0,.int .i64 0,.int .i64 0]):=by kernel_rfl
theorem Z9:Mb Tryz.prog 39=some (78,4,32,[.int .i64 0,.int .i64 0,.int .i64 0,.int .i64 0]):=by kernel_rfl
theorem Ha:Jy Tryz.prog 45 50 5=true:=by kernel_rfl
theorem Ie:FB Tryz.prog 50 3 3=true:=by kernel_rfl
theorem Iz:FB Tryz.prog 50 4 4=true:=by kernel_rfl
theorem Ia:BR Tryz.prog 18=true:=by kernel_rfl
theorem Xo:BR Tryz.prog 35=true:=by kernel_rfl
theorem bX:BR Tryz.prog 12=true:=by kernel_rfl
theorem Xa:Ya Tryz.prog 69=some [1,1,2,2]:=by kernel_rfl
theorem Rq:BR Tryz.prog 41=true:=by kernel_rfl
theorem bM:BR Tryz.prog 40=true:=by kernel_rfl
theorem bK:BR Tryz.prog 43=true:=by kernel_rfl
theorem bL:BR Tryz.prog 42=true:=by kernel_rfl
theorem bJ:BR Tryz.prog 44=true:=by kernel_rfl
theorem Xu:BR Tryz.prog 20=true:=by kernel_rfl
theorem dO:BR Tryz.prog 9=true:=by kernel_rfl
theorem bU:BR Tryz.prog 28=true:=by kernel_rfl
theorem bY:BR Tryz.prog 10=true:=by kernel_rfl
end Go.Proofs.YtblcgjadhemlbaaGreat
