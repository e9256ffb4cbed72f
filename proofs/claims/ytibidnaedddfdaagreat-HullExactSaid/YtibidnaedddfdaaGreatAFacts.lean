import Derived.Test.YtibidnaedddfdaaGreatAReps
import Derived.Test.YtibidnaedddfdaaGreatRows
namespace Go.Proofs.YtibidnaedddfdaaGreat
set_option linter.unusedSimpArgs false
set_option linter.unusedVariables false
open Go.RowKit
theorem W9:Of Tryz.prog 90=some ([(0,1),(1,1)],[.int .i64 0,.int .i64 0]):=by kernel_rfl
theorem Xq:Lt Tryz.prog 54=some (90,2,16,[.int .i64 0,.int .i64 0]):=by kernel_rfl
theorem MM:Lt Tryz.prog 29=some (3,1,8,[.int .i64 0]):=by kernel_rfl
theorem XC:Of Tryz.prog 57=some ([(0,1),(1,1),(2,1),(3,1),(4,1),(5,1),(6,1),(7,1),(8,1),(9,1),(10,1),(11,1)],[.string ByteArray.empty,.int .i64 0,.int .i64 0,.int .i64 0,.slice none 0 0,.slice none 0 0,.int .i64 0,.int .i64 0,.int .i64 0,.int .i64 0,.int .i64 0,.slice none 0 0]):=by kernel_rfl
theorem Lw:CY Tryz.prog 57=some [.string ByteArray.empty,.int .i64 0,.int .i64 0,.int .i64 0,.slice none 0 0,.slice none 0 0,.int .i64 0,.int .i64 0,.int .i64 0,.int .i64 0,.int .i64 0,.slice none 0 0]:=by kernel_rfl
theorem HV:GP Tryz.prog 57 12 true=true:=by kernel_rfl
theorem Xs:Lt Tryz.prog 22=some (9,1,16,[.string ByteArray.empty]):=by kernel_rfl
theorem Xr:Lt Tryz.prog 23=some (57,12,152,[.string ByteArray.empty,.int .i64 0,.int .i64 0,.int .i64 0,.slice none 0 0,.slice none 0 0,.int .i64 0,.int .i64 0,.int .i64 0,.int .i64 0,.int .i64 0,.slice none 0 0]):=by kernel_rfl
theorem XD:Of Tryz.prog 31=some ([(0,1),(1,1),(2,1),(3,1),(4,1),(5,1),(6,1),(7,1),(8,1),(9,1),(10,1)],[.string ByteArray.empty,.slice none 0 0,.int .i64 0,.slice none 0 0,.slice none 0 0,.slice none 0 0,.slice none 0 0,.slice none 0 0,.slice none 0 0,.slice none 0 0,.int .i64 0]):=by kernel_rfl
theorem Wv:CY Tryz.prog 31=some [.string ByteArray.empty,.slice none 0 0,.int .i64 0,.slice none 0 0,.slice none 0 0,.slice none 0 0,.slice none 0 0,.slice none 0 0,.slice none 0 0,.slice none 0 0,.int .i64 0]:=by kernel_rfl
theorem D1:GP Tryz.prog 31 11 true=true:=by kernel_rfl
theorem Ga:Of Tryz.prog 51=some ([(0,1),(1,1)],[.int .i64 0,.int .i64 0]):=by kernel_rfl
theorem Nm:Lt Tryz.prog 32=some (51,2,16,[.int .i64 0,.int .i64 0]):=by kernel_rfl
theorem SS:Of Tryz.prog 36=some ([(0,1),(1,1),(2,1),(3,1)],[.int .i64 0,.slice none 0 0,.slice none 0 0,.slice none 0 0]):=by kernel_rfl
theorem OC:CY Tryz.prog 36=some [.int .i64 0,.slice none 0 0,.slice none 0 0,.slice none 0 0]:=by kernel_rfl
theorem Zx:GP Tryz.prog 36 4 true=true:=by kernel_rfl
theorem U9:Of Tryz.prog 42=some ([(0,1),(1,1),(2,1),(3,1),(4,1)],[.slice none 0 0,.slice none 0 0,.slice none 0 0,.slice none 0 0,.slice none 0 0]):=by kernel_rfl
theorem GX:Dl Tryz.prog 36 1 1=true:=by kernel_rfl
theorem Fq:GP Tryz.prog 32 1 false=true:=by kernel_rfl
theorem R8:∃e,Tryz.prog.underlying 32=some (.slice e):=⟨51,by kernel_rfl⟩
theorem X8:Am Tryz.prog 48=true:=by kernel_rfl
theorem FV:Dl Tryz.prog 36 3 3=true:=by kernel_rfl
theorem H9:GP Tryz.prog 34 1 false=true:=by kernel_rfl
theorem R7:∃e,Tryz.prog.underlying 34=some (.slice e):=⟨97,by kernel_rfl⟩
theorem RC:Lt Tryz.prog 34=some (97,5,40,[.int .i64 0,.int .i64 0,.int .i64 0,.int .i64 0,.int .i64 0]):=by kernel_rfl
theorem X7:Am Tryz.prog 49=true:=by kernel_rfl
theorem mo:Tryz.prog.follows .mixedOrders=true:=by kernel_rfl
theorem Bs:Dl Tryz.prog 31 3 3=true:=by kernel_rfl
theorem EY:GP Tryz.prog 23 1 false=true:=by kernel_rfl
theorem Dk:JL Tryz.prog 23 57 12=true:=by kernel_rfl
theorem Vk:Of Tryz.prog 106=some ([(0,11),(11,4),(15,1)],[.string ByteArray.empty,.slice none 0 0,.int .i64 0,.slice none 0 0,.slice none 0 0,.slice none 0 0,.slice none 0 0,.slice none 0 0,.slice none 0 0,.slice none 0 0,.int .i64 0,.int .i64 0,.slice none 0 0,.slice none 0 0,.slice none 0 0,.slice none 0 0]):=by kernel_rfl
theorem Vb:CY Tryz.prog 106=some [.string ByteArray.empty,.slice none 0 0,.int .i64 0,.slice none 0 0,.slice none 0 0,.slice none 0 0,.slice none 0 0,.slice none 0 0,.slice none 0 0,.slice none 0 0,.int .i64 0,.int .i64 0,.slice none 0 0,.slice none 0 0,.slice none 0 0,.slice none 0 0]:=by kernel_rfl
theorem Vg:GP Tryz.prog 106 16 true=true:=by kernel_rfl
theorem Q9:Dl Tryz.prog 42 1 1=true:=by kernel_rfl
theorem U7:GP Tryz.prog 37 1 false=true:=by kernel_rfl
theorem SW:JL Tryz.prog 37 171 2=true:=by kernel_rfl
theorem EL:CY Tryz.prog 51=some [.int .i64 0,.int .i64 0]:=by kernel_rfl
theorem Ag:GP Tryz.prog 51 2 true=true:=by kernel_rfl
theorem SJ:GP Tryz.prog 171 2 true=true:=by kernel_rfl
theorem VX:CY Tryz.prog 171=some [.int .i64 0,.int .i64 0]:=by kernel_rfl
theorem ML:Dl Tryz.prog 171 1 1=true:=by kernel_rfl
theorem AN:GP Tryz.prog 3 1 false=true:=by kernel_rfl
theorem Fv:Dl Tryz.prog 106 0 0=true:=by kernel_rfl
theorem EE:Dl Tryz.prog 31 4 4=true:=by kernel_rfl
theorem G7:GP Tryz.prog 24 1 false=true:=by kernel_rfl
theorem FT:JL Tryz.prog 24 102 18=true:=by kernel_rfl
theorem P4:Am Tryz.prog 45=true:=by kernel_rfl
theorem Ck:Dl Tryz.prog 102 1 1=true:=by kernel_rfl
theorem TL:Dl Tryz.prog 171 0 0=true:=by kernel_rfl
theorem Do:Dl Tryz.prog 106 1 11=true:=by kernel_rfl
theorem JF:Am Tryz.prog 66=true:=by kernel_rfl
theorem Il:JL Tryz.prog 34 97 5=true:=by kernel_rfl
theorem Hd:Dl Tryz.prog 97 2 3=true:=by kernel_rfl
theorem Q8:Dl Tryz.prog 42 2 2=true:=by kernel_rfl
theorem U6:GP Tryz.prog 38 1 false=true:=by kernel_rfl
theorem SV:JL Tryz.prog 38 173 2=true:=by kernel_rfl
theorem OB:CY Tryz.prog 81=some [.int .i64 0,.int .i64 0,.bool false,.bool false]:=by kernel_rfl
theorem FW:Dl Tryz.prog 102 6 7=true:=by kernel_rfl
theorem O7:Am Tryz.prog 145=true:=by kernel_rfl
theorem MG:Dl Tryz.prog 81 1 1=true:=by kernel_rfl
theorem G5:GP Tryz.prog 81 4 true=true:=by kernel_rfl
theorem SH:GP Tryz.prog 173 2 true=true:=by kernel_rfl
theorem VW:CY Tryz.prog 173=some [.int .i64 0,.int .i64 0]:=by kernel_rfl
theorem Ng:Dl Tryz.prog 173 0 0=true:=by kernel_rfl
theorem C3:GP Tryz.prog 102 18 true=true:=by kernel_rfl
theorem NK:Dl Tryz.prog 97 1 2=true:=by kernel_rfl
theorem SR:Of Tryz.prog 81=some ([(0,1),(1,1),(2,1),(3,1)],[.int .i64 0,.int .i64 0,.bool false,.bool false]):=by kernel_rfl
theorem TK:Dl Tryz.prog 173 1 1=true:=by kernel_rfl
theorem Wb:Am Tryz.prog 100=true:=by kernel_rfl
theorem Uk:Xm Tryz.prog 81 1 1 3 1 false=true:=by kernel_rfl
theorem PN:CY Tryz.prog 97=some [.int .i64 0,.int .i64 0,.int .i64 0,.int .i64 0,.int .i64 0]:=by kernel_rfl
theorem Um:Dl Tryz.prog 81 2 2=true:=by kernel_rfl
theorem Kd:GP Tryz.prog 4 1 false=true:=by kernel_rfl
theorem IX:Dl Tryz.prog 81 0 0=true:=by kernel_rfl
theorem H2:Am Tryz.prog 106=true:=by kernel_rfl
theorem Iq:Dl Tryz.prog 102 7 8=true:=by kernel_rfl
theorem KA:Am Tryz.prog 60=true:=by kernel_rfl
theorem WN:Am Tryz.prog 147=true:=by kernel_rfl
theorem Ul:Xm Tryz.prog 81 0 0 3 1 false=true:=by kernel_rfl
theorem He:Dl Tryz.prog 97 0 0=true:=by kernel_rfl
theorem Cj:Dl Tryz.prog 51 0 0=true:=by kernel_rfl
theorem Tp:Am Tryz.prog 146=true:=by kernel_rfl
theorem CT:Dl Tryz.prog 51 1 1=true:=by kernel_rfl
theorem GT:GP Tryz.prog 97 5 true=true:=by kernel_rfl
theorem KX:CY Tryz.prog 102=some [.string ByteArray.empty,.int .i64 0,.int .i64 0,.int .i64 0,.slice none 0 0,.slice none 0 0,.slice none 0 0,.int .i64 0,.int .i64 0,.int .i64 0,.int .i64 0,.int .i64 0,.int .i64 0,.int .i64 0,.int .i64 0,.int .i64 0,.int .i64 0,.int .i64 0]:=by kernel_rfl
theorem VC:JL Tryz.prog 43 4 1=true:=by kernel_rfl
theorem Wa:Am Tryz.prog 101=true:=by kernel_rfl
theorem W6:GP Tryz.prog 42 5 true=true:=by kernel_rfl
theorem X6:Am Tryz.prog 50=true:=by kernel_rfl
theorem EM:JL Tryz.prog 32 51 2=true:=by kernel_rfl
theorem P5:Am Tryz.prog 13=true:=by kernel_rfl
theorem QV:Am Tryz.prog 102=true:=by kernel_rfl
theorem Fu:Dl Tryz.prog 106 2 15=true:=by kernel_rfl
theorem HG:Dl Tryz.prog 36 2 2=true:=by kernel_rfl
theorem J4:GP Tryz.prog 33 1 false=true:=by kernel_rfl
theorem EZ:JL Tryz.prog 33 93 4=true:=by kernel_rfl
theorem Ij:GP Tryz.prog 93 4 true=true:=by kernel_rfl
theorem Qg:CY Tryz.prog 93=some [.int .i64 0,.int .i64 0,.int .i64 0,.int .i64 0]:=by kernel_rfl
theorem ME:Dl Tryz.prog 93 0 0=true:=by kernel_rfl
theorem Ia:Dl Tryz.prog 36 0 0=true:=by kernel_rfl
theorem LD:Dl Tryz.prog 93 1 1=true:=by kernel_rfl
theorem JA:Dl Tryz.prog 93 2 2=true:=by kernel_rfl
theorem P0:Lt Tryz.prog 33=some (93,4,32,[.int .i64 0,.int .i64 0,.int .i64 0,.int .i64 0]):=by kernel_rfl
theorem QU:Am Tryz.prog 103=true:=by kernel_rfl
theorem Wu:CY Tryz.prog 4=some [.bool false]:=by kernel_rfl
theorem WM:Am Tryz.prog 148=true:=by kernel_rfl
theorem Hx:Dl Tryz.prog 102 13 14=true:=by kernel_rfl
theorem Nu:Am Tryz.prog 73=true:=by kernel_rfl
theorem LI:Dl Tryz.prog 102 12 13=true:=by kernel_rfl
theorem Jl:Dl Tryz.prog 81 3 3=true:=by kernel_rfl
theorem WH:Am Tryz.prog 172=true:=by kernel_rfl
theorem WL:Am Tryz.prog 149=true:=by kernel_rfl
theorem Uj:Xm Tryz.prog 81 3 3 4 1 false=true:=by kernel_rfl
theorem Tk:Am Tryz.prog 54=true:=by kernel_rfl
theorem Gd:Dl Tryz.prog 102 2 2=true:=by kernel_rfl
theorem WZ:Am Tryz.prog 104=true:=by kernel_rfl
theorem X5:Am Tryz.prog 51=true:=by kernel_rfl
theorem SU:JL Tryz.prog 39 184 4=true:=by kernel_rfl
theorem Pq:Dl Tryz.prog 184 2 2=true:=by kernel_rfl
theorem SF:GP Tryz.prog 184 4 true=true:=by kernel_rfl
theorem VU:CY Tryz.prog 184=some [.int .i64 0,.int .i64 0,.int .i64 0,.int .i64 0]:=by kernel_rfl
theorem TH:Dl Tryz.prog 184 0 0=true:=by kernel_rfl
theorem TG:Dl Tryz.prog 184 1 1=true:=by kernel_rfl
theorem Hf:Dl Tryz.prog 31 1 1=true:=by kernel_rfl
theorem Ke:GP Tryz.prog 22 1 false=true:=by kernel_rfl
theorem J5:JL Tryz.prog 22 9 1=true:=by kernel_rfl
theorem MK:Dl Tryz.prog 184 3 3=true:=by kernel_rfl
theorem Jn:Dl Tryz.prog 57 2 2=true:=by kernel_rfl
theorem NS:Of Tryz.prog 181=some ([(0,1),(1,1),(2,1),(3,1)],[.int .i64 0,.int .i64 0,.int .i64 0,.nilFunc]):=by kernel_rfl
theorem WY:Am Tryz.prog 108=true:=by kernel_rfl
theorem JP:Lt Tryz.prog 110=some (181,4,32,[.int .i64 0,.int .i64 0,.int .i64 0,.nilFunc]):=by kernel_rfl
theorem E8:Dl Tryz.prog 102 3 3=true:=by kernel_rfl
theorem Lh:Tryz.prog.underlying 3=some (.int .i64):=by kernel_rfl
theorem JH:Tryz.prog.underlying 213=some (.int .u64):=by kernel_rfl
theorem Ts:Am Tryz.prog 142=true:=by kernel_rfl
theorem W3:Tryz.prog.underlying 5=some (.int .u8):=by kernel_rfl
theorem N5:Tryz.prog.underlying 9=some .string:=by kernel_rfl
theorem WC:Am Tryz.prog 184=true:=by kernel_rfl
theorem WI:Am Tryz.prog 171=true:=by kernel_rfl
theorem NP:Tryz.prog.underlying 230=some (.int .u64):=by kernel_rfl
theorem Tr:Am Tryz.prog 143=true:=by kernel_rfl
theorem O6:Am Tryz.prog 152=true:=by kernel_rfl
theorem Hw:Dl Tryz.prog 102 14 15=true:=by kernel_rfl
theorem HZ:Dl Tryz.prog 102 15 16=true:=by kernel_rfl
theorem Nw:Am Tryz.prog 173=true:=by kernel_rfl
theorem GG:JL Tryz.prog 54 90 2=true:=by kernel_rfl
theorem Ms:GP Tryz.prog 90 2 true=true:=by kernel_rfl
theorem Qh:CY Tryz.prog 90=some [.int .i64 0,.int .i64 0]:=by kernel_rfl
theorem HF:Dl Tryz.prog 90 0 0=true:=by kernel_rfl
theorem GW:Dl Tryz.prog 90 1 1=true:=by kernel_rfl
theorem Ns:Am Tryz.prog 89=true:=by kernel_rfl
theorem GU:GP Tryz.prog 54 1 false=true:=by kernel_rfl
theorem WD:Am Tryz.prog 183=true:=by kernel_rfl
theorem WJ:Am Tryz.prog 165=true:=by kernel_rfl
theorem QT:Am Tryz.prog 170=true:=by kernel_rfl
theorem WE:Am Tryz.prog 175=true:=by kernel_rfl
theorem WG:Am Tryz.prog 174=true:=by kernel_rfl
theorem Nk:Dl Tryz.prog 102 8 9=true:=by kernel_rfl
theorem Fw:Dl Tryz.prog 102 10 11=true:=by kernel_rfl
theorem Gs:Dl Tryz.prog 102 11 12=true:=by kernel_rfl
theorem Nj:Dl Tryz.prog 102 9 10=true:=by kernel_rfl
theorem HA:Dl Tryz.prog 102 5 5=true:=by kernel_rfl
theorem Kv:Dl Tryz.prog 100 0 0=true:=by kernel_rfl
theorem Tn:Am Tryz.prog 150=true:=by kernel_rfl
theorem Ku:Dl Tryz.prog 100 1 1=true:=by kernel_rfl
theorem WW:Am Tryz.prog 110=true:=by kernel_rfl
theorem Tl:Am Tryz.prog 176=true:=by kernel_rfl
theorem Tm:Am Tryz.prog 151=true:=by kernel_rfl
theorem Tx:Am Tryz.prog 113=true:=by kernel_rfl
theorem Ty:Am Tryz.prog 112=true:=by kernel_rfl
theorem WT:Am Tryz.prog 115=true:=by kernel_rfl
theorem LH:Dl Tryz.prog 102 16 17=true:=by kernel_rfl
theorem WX:Am Tryz.prog 109=true:=by kernel_rfl
theorem WV:Am Tryz.prog 111=true:=by kernel_rfl
theorem WU:Am Tryz.prog 114=true:=by kernel_rfl
theorem IZ:Dl Tryz.prog 57 7 7=true:=by kernel_rfl
theorem Ow:Dl Tryz.prog 57 6 6=true:=by kernel_rfl
theorem Tw:Am Tryz.prog 117=true:=by kernel_rfl
theorem NL:Dl Tryz.prog 57 8 8=true:=by kernel_rfl
theorem Ov:Dl Tryz.prog 57 9 9=true:=by kernel_rfl
theorem WS:Am Tryz.prog 116=true:=by kernel_rfl
theorem Ww:CY Tryz.prog 3=some [.int .i64 0]:=by kernel_rfl
theorem SY:JL Tryz.prog 110 181 4=true:=by kernel_rfl
theorem U8:Of Tryz.prog 93=some ([(0,1),(1,1),(2,2)],[.int .i64 0,.int .i64 0,.int .i64 0,.int .i64 0]):=by kernel_rfl
theorem Tq:Am Tryz.prog 144=true:=by kernel_rfl
theorem Ea:JL Tryz.prog 29 3 1=true:=by kernel_rfl
theorem VG:Am Tryz.prog 99=true:=by kernel_rfl
theorem Xv:Am Tryz.prog 98=true:=by kernel_rfl
theorem VN:Am Tryz.prog 46=true:=by kernel_rfl
theorem WQ:Am Tryz.prog 124=true:=by kernel_rfl
theorem WP:Am Tryz.prog 125=true:=by kernel_rfl
theorem VK:Am Tryz.prog 67=true:=by kernel_rfl
theorem SG:GP Tryz.prog 181 4 true=true:=by kernel_rfl
theorem VV:CY Tryz.prog 181=some [.int .i64 0,.int .i64 0,.int .i64 0,.nilFunc]:=by kernel_rfl
theorem Pr:Dl Tryz.prog 181 3 3=true:=by kernel_rfl
theorem SO:GP Tryz.prog 133 1 false=true:=by kernel_rfl
theorem T0:Am Tryz.prog 105=true:=by kernel_rfl
theorem TJ:Dl Tryz.prog 181 0 0=true:=by kernel_rfl
theorem TI:Dl Tryz.prog 181 1 1=true:=by kernel_rfl
theorem Tz:Am Tryz.prog 107=true:=by kernel_rfl
theorem Ps:Dl Tryz.prog 181 2 2=true:=by kernel_rfl
theorem MH:Dl Tryz.prog 57 3 3=true:=by kernel_rfl
theorem Q7:Dl Tryz.prog 42 3 3=true:=by kernel_rfl
theorem U5:GP Tryz.prog 39 1 false=true:=by kernel_rfl
theorem X3:Am Tryz.prog 53=true:=by kernel_rfl
theorem X4:Am Tryz.prog 52=true:=by kernel_rfl
theorem YM:Am Tryz.prog 12=true:=by kernel_rfl
theorem Rz:CY Tryz.prog 71=some [.int .i64 0,.slice none 0 0,.slice none 0 0,.slice none 0 0,.slice none 0 0,.slice none 0 0,.slice none 0 0]:=by kernel_rfl
theorem XB:Of Tryz.prog 71=some ([(0,1),(1,1),(2,1),(3,1),(4,1),(5,1),(6,1)],[.int .i64 0,.slice none 0 0,.slice none 0 0,.slice none 0 0,.slice none 0 0,.slice none 0 0,.slice none 0 0]):=by kernel_rfl
theorem Xp:Lt Tryz.prog 67=some (29,1,24,[.slice none 0 0]):=by kernel_rfl
theorem Xo:Lt Tryz.prog 69=some (81,4,24,[.int .i64 0,.int .i64 0,.bool false,.bool false]):=by kernel_rfl
theorem G6:GP Tryz.prog 71 7 true=true:=by kernel_rfl
theorem R9:∃e,Tryz.prog.underlying 29=some (.slice e):=⟨3,by kernel_rfl⟩
theorem JB:Dl Tryz.prog 71 1 1=true:=by kernel_rfl
theorem Mt:GP Tryz.prog 67 1 false=true:=by kernel_rfl
theorem Ox:Dl Tryz.prog 57 5 5=true:=by kernel_rfl
theorem GV:GP Tryz.prog 29 1 false=true:=by kernel_rfl
theorem X0:Am Tryz.prog 84=true:=by kernel_rfl
theorem LY:JL Tryz.prog 67 29 1=true:=by kernel_rfl
theorem YK:Am Tryz.prog 35=true:=by kernel_rfl
theorem M3:VF Tryz.prog 51=some [1,1]:=by kernel_rfl
theorem Tu:Am Tryz.prog 14=true:=by kernel_rfl
theorem X9:Am Tryz.prog 47=true:=by kernel_rfl
theorem VM:Am Tryz.prog 61=true:=by kernel_rfl
theorem Jm:Dl Tryz.prog 71 0 0=true:=by kernel_rfl
theorem IY:Dl Tryz.prog 71 4 4=true:=by kernel_rfl
theorem Ly:GP Tryz.prog 69 1 false=true:=by kernel_rfl
theorem LX:JL Tryz.prog 69 81 4=true:=by kernel_rfl
theorem MQ:Am Tryz.prog 30=true:=by kernel_rfl
theorem VJ:Am Tryz.prog 68=true:=by kernel_rfl
theorem GA:Dl Tryz.prog 71 3 3=true:=by kernel_rfl
theorem Ik:GP Tryz.prog 68 1 false=true:=by kernel_rfl
theorem Hp:JL Tryz.prog 68 83 3=true:=by kernel_rfl
theorem Kc:GP Tryz.prog 83 3 true=true:=by kernel_rfl
theorem Qi:CY Tryz.prog 83=some [.int .i64 0,.int .i64 0,.slice none 0 0]:=by kernel_rfl
theorem LG:Dl Tryz.prog 83 0 0=true:=by kernel_rfl
theorem LE:Dl Tryz.prog 83 1 1=true:=by kernel_rfl
theorem ST:Of Tryz.prog 197=some ([(0,1),(1,1)],[.int .i64 0,.int .i64 0]):=by kernel_rfl
theorem QA:CY Tryz.prog 197=some [.int .i64 0,.int .i64 0]:=by kernel_rfl
theorem Kf:GP Tryz.prog 197 2 true=true:=by kernel_rfl
theorem Oa:Tryz.prog.underlying 195=some (.map 197 3):=by kernel_rfl
theorem V2:VF Tryz.prog 197=some [1,1]:=by kernel_rfl
theorem MA:Jc Tryz.prog 197 (λk:AM=>Value.agg (AM.v k).toArray):=Jc.agg (f:=AM.v) Tryz.underlying197 V2 (λk=>rfl) (λa b=>rfl) (λk e w=>by kernel_rfl) (λa b h=>by
 simp only[AM.v,MX,Ry,Bool.and_eq_true,Mq,decide_eq_true_eq,beq_iff_eq] at h
 simp [AM.v,h]) (λa=>by simp [Instr.sameBits,AM.v,Mq.2])
theorem Wt:∀w,(zeroValue 3).run Tryz.prog w= .ok (.int .i64 0) w:=λw=>by kernel_rfl
theorem MF:Dl Tryz.prog 83 2 2=true:=by kernel_rfl
theorem SB:Tryz.prog.underlying 198=some (.map 197 4):=by kernel_rfl
theorem Ws:∀w,(zeroValue 4).run Tryz.prog w= .ok (.bool false) w:=λw=>by kernel_rfl
theorem X1:Am Tryz.prog 74=true:=by kernel_rfl
theorem W8:Of Tryz.prog 97=some ([(0,2),(2,1),(3,2)],[.int .i64 0,.int .i64 0,.int .i64 0,.int .i64 0,.int .i64 0]):=by kernel_rfl
theorem OT:Am Tryz.prog 11=true:=by kernel_rfl
theorem Nv:Am Tryz.prog 20=true:=by kernel_rfl
theorem OR:Am Tryz.prog 26=true:=by kernel_rfl
theorem RI:Am Tryz.prog 24=true:=by kernel_rfl
theorem Yo:Am Tryz.prog 8=true:=by kernel_rfl
theorem Ur:Dl Tryz.prog 42 0 0=true:=by kernel_rfl
theorem Uq:Dl Tryz.prog 42 4 4=true:=by kernel_rfl
theorem W7:GP Tryz.prog 40 1 false=true:=by kernel_rfl
theorem XF:JL Tryz.prog 40 260 4=true:=by kernel_rfl
theorem O1:Dl Tryz.prog 31 0 0=true:=by kernel_rfl
theorem N6:GP Tryz.prog 9 1 false=true:=by kernel_rfl
theorem F7:Am Tryz.prog 85=true:=by kernel_rfl
theorem O0:Dl Tryz.prog 31 2 2=true:=by kernel_rfl
theorem MJ:Dl Tryz.prog 31 5 5=true:=by kernel_rfl
theorem PT:GP Tryz.prog 25 1 false=true:=by kernel_rfl
theorem NT:JL Tryz.prog 25 114 7=true:=by kernel_rfl
theorem Oz:Dl Tryz.prog 31 6 6=true:=by kernel_rfl
theorem SE:GP Tryz.prog 26 1 false=true:=by kernel_rfl
theorem Pb:JL Tryz.prog 26 147 5=true:=by kernel_rfl
theorem Oy:Dl Tryz.prog 31 7 7=true:=by kernel_rfl
theorem SD:GP Tryz.prog 27 1 false=true:=by kernel_rfl
theorem Pa:JL Tryz.prog 27 160 7=true:=by kernel_rfl
theorem NM:Dl Tryz.prog 31 8 8=true:=by kernel_rfl
theorem Qn:GP Tryz.prog 28 1 false=true:=by kernel_rfl
theorem OG:JL Tryz.prog 28 158 2=true:=by kernel_rfl
theorem RA:Dl Tryz.prog 31 9 9=true:=by kernel_rfl
theorem TF:Dl Tryz.prog 31 10 10=true:=by kernel_rfl
theorem Hr:Am Tryz.prog 86=true:=by kernel_rfl
theorem Va:CY Tryz.prog 154=some [.map none]:=by kernel_rfl
theorem SL:GP Tryz.prog 154 1 false=true:=by kernel_rfl
theorem Vj:Of Tryz.prog 210=some ([(0,1),(1,1)],[.string ByteArray.empty,.string ByteArray.empty]):=by kernel_rfl
theorem VT:CY Tryz.prog 210=some [.string ByteArray.empty,.string ByteArray.empty]:=by kernel_rfl
theorem QC:GP Tryz.prog 210 2 true=true:=by kernel_rfl
theorem WO:Am Tryz.prog 140=true:=by kernel_rfl
theorem SC:Tryz.prog.underlying 154=some (.map 210 4):=by kernel_rfl
theorem V1:VF Tryz.prog 210=some [3,3]:=by kernel_rfl
theorem Q2:Jc Tryz.prog 210 (λk:AG=>Value.agg (AG.v k).toArray):=Jc.agg (f:=AG.v) Tryz.underlying210 V1 (λk=>rfl) (λa b=>rfl) (λk e w=>by kernel_rfl) (λa b h=>by
 simp only[AG.v,MX,Ry,Bool.and_eq_true,Mq,decide_eq_true_eq,beq_iff_eq] at h
 simp [AG.v,h]) (λa=>by simp [Instr.sameBits,AG.v,Mq.2])
theorem Xz:Am Tryz.prog 88=true:=by kernel_rfl
theorem Nt:Am Tryz.prog 87=true:=by kernel_rfl
theorem Up:Dl Tryz.prog 57 0 0=true:=by kernel_rfl
theorem Td:Dl Tryz.prog 102 0 0=true:=by kernel_rfl
theorem Oe:GP Tryz.prog 114 7 true=true:=by kernel_rfl
theorem R4:CY Tryz.prog 114=some [.string ByteArray.empty,.int .i64 0,.int .i64 0,.int .i64 0,.int .i64 0,.int .i64 0,.int .i64 0]:=by kernel_rfl
theorem Tc:Dl Tryz.prog 114 0 0=true:=by kernel_rfl
theorem Oc:GP Tryz.prog 158 2 true=true:=by kernel_rfl
theorem R1:CY Tryz.prog 158=some [.string ByteArray.empty,.int .i64 0]:=by kernel_rfl
theorem TR:Dl Tryz.prog 158 0 0=true:=by kernel_rfl
theorem Od:GP Tryz.prog 147 5 true=true:=by kernel_rfl
theorem R3:CY Tryz.prog 147=some [.string ByteArray.empty,.int .i64 0,.int .i64 0,.int .i64 0,.int .i64 0]:=by kernel_rfl
theorem TV:Dl Tryz.prog 147 0 0=true:=by kernel_rfl
theorem Ob:GP Tryz.prog 160 7 true=true:=by kernel_rfl
theorem R0:CY Tryz.prog 160=some [.string ByteArray.empty,.int .i64 0,.int .i64 0,.int .i64 0,.int .i64 0,.int .i64 0,.int .i64 0]:=by kernel_rfl
theorem TP:Dl Tryz.prog 160 0 0=true:=by kernel_rfl
theorem Nr:Am Tryz.prog 92=true:=by kernel_rfl
theorem Uo:Dl Tryz.prog 57 1 1=true:=by kernel_rfl
theorem TE:Dl Tryz.prog 57 10 10=true:=by kernel_rfl
theorem Un:Dl Tryz.prog 57 4 4=true:=by kernel_rfl
theorem Tj:Am Tryz.prog 90=true:=by kernel_rfl
theorem VI:Am Tryz.prog 91=true:=by kernel_rfl
theorem TD:Dl Tryz.prog 57 11 11=true:=by kernel_rfl
theorem W5:GP Tryz.prog 55 1 false=true:=by kernel_rfl
theorem VB:JL Tryz.prog 55 164 2=true:=by kernel_rfl
theorem SK:GP Tryz.prog 164 2 true=true:=by kernel_rfl
theorem VZ:CY Tryz.prog 164=some [.int .i64 0,.int .i64 0]:=by kernel_rfl
theorem Nh:Dl Tryz.prog 164 0 0=true:=by kernel_rfl
theorem TM:Dl Tryz.prog 164 1 1=true:=by kernel_rfl
theorem Kt:Dl Tryz.prog 102 4 4=true:=by kernel_rfl
theorem Tt:Am Tryz.prog 141=true:=by kernel_rfl
theorem Xy:Am Tryz.prog 93=true:=by kernel_rfl
theorem Xx:Am Tryz.prog 94=true:=by kernel_rfl
theorem VH:Am Tryz.prog 95=true:=by kernel_rfl
theorem OQ:Am Tryz.prog 96=true:=by kernel_rfl
theorem SX:JL Tryz.prog 217 54 1=true:=by kernel_rfl
theorem V4:Lt Tryz.prog 217=some (54,1,24,[.slice none 0 0]):=by kernel_rfl
theorem Xw:Am Tryz.prog 97=true:=by kernel_rfl
theorem Tb:Dl Tryz.prog 114 1 1=true:=by kernel_rfl
theorem Ta:Dl Tryz.prog 114 2 2=true:=by kernel_rfl
theorem TZ:Dl Tryz.prog 114 3 3=true:=by kernel_rfl
theorem TY:Dl Tryz.prog 114 4 4=true:=by kernel_rfl
theorem TX:Dl Tryz.prog 114 5 5=true:=by kernel_rfl
theorem TW:Dl Tryz.prog 114 6 6=true:=by kernel_rfl
theorem TQ:Dl Tryz.prog 158 1 1=true:=by kernel_rfl
theorem Py:Dl Tryz.prog 147 1 1=true:=by kernel_rfl
theorem TT:Dl Tryz.prog 147 3 3=true:=by kernel_rfl
theorem TS:Dl Tryz.prog 147 4 4=true:=by kernel_rfl
theorem We:YU Tryz.prog 167=some ([(0,1),(1,1),(2,1)],[.int .i64 0,.int .i64 0,.int .i64 0]):=by kernel_rfl
theorem VY:CY Tryz.prog 167=some [.int .i64 0,.int .i64 0,.int .i64 0]:=by kernel_rfl
theorem Vf:GP Tryz.prog 167 3 true=true:=by kernel_rfl
theorem TU:Dl Tryz.prog 147 2 2=true:=by kernel_rfl
theorem Wc:Yp Tryz.prog 167 3 1=true:=by kernel_rfl
theorem Px:Dl Tryz.prog 160 1 1=true:=by kernel_rfl
theorem Pw:Dl Tryz.prog 160 2 2=true:=by kernel_rfl
theorem TO:Dl Tryz.prog 160 3 3=true:=by kernel_rfl
theorem TN:Dl Tryz.prog 160 4 4=true:=by kernel_rfl
theorem Pv:Dl Tryz.prog 160 6 6=true:=by kernel_rfl
theorem Ni:Dl Tryz.prog 160 5 5=true:=by kernel_rfl
theorem YJ:Am Tryz.prog 36=true:=by kernel_rfl
theorem YI:Am Tryz.prog 37=true:=by kernel_rfl
theorem YH:Am Tryz.prog 38=true:=by kernel_rfl
theorem YG:Am Tryz.prog 39=true:=by kernel_rfl
theorem YF:Am Tryz.prog 40=true:=by kernel_rfl
theorem YE:Am Tryz.prog 41=true:=by kernel_rfl
theorem YD:Am Tryz.prog 42=true:=by kernel_rfl
theorem YB:Am Tryz.prog 43=true:=by kernel_rfl
theorem YA:Am Tryz.prog 44=true:=by kernel_rfl
theorem Ou:Dl Tryz.prog 71 2 2=true:=by kernel_rfl
theorem Q6:Dl Tryz.prog 71 5 5=true:=by kernel_rfl
theorem Q5:Dl Tryz.prog 71 6 6=true:=by kernel_rfl
theorem WK:Am Tryz.prog 154=true:=by kernel_rfl
theorem Tv:Am Tryz.prog 122=true:=by kernel_rfl
theorem WR:Am Tryz.prog 123=true:=by kernel_rfl
theorem X2:Am Tryz.prog 64=true:=by kernel_rfl
theorem VL:Am Tryz.prog 65=true:=by kernel_rfl
theorem Yn:Am Tryz.prog 9=true:=by kernel_rfl
theorem YN:Am Tryz.prog 10=true:=by kernel_rfl
theorem VP:Am Tryz.prog 22=true:=by kernel_rfl
theorem W4:Tryz.prog.underlying 4=some .bool:=by kernel_rfl
theorem XA:Of Tryz.prog 83=some ([(0,1),(1,1),(2,1)],[.int .i64 0,.int .i64 0,.slice none 0 0]):=by kernel_rfl
theorem VO:Am Tryz.prog 31=true:=by kernel_rfl
theorem Ya:Tryz.prog.underlying 3=some (.int .i64):=by kernel_rfl
end Go.Proofs.YtibidnaedddfdaaGreat
