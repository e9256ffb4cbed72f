import Derived.Test.YtedgiljmffngoaaGreatFFacts
import Derived.Test.YtedgiljmffngoaaGreatFCore44
namespace Go.Proofs.YtedgiljmffngoaaGreat
set_option linter.all false
instance fa_31_3:EG Tryz.prog 31 3 3:=⟨by kernel_rfl⟩
instance fa_31_4:EG Tryz.prog 31 4 4:=⟨by kernel_rfl⟩
instance fa_31_1:EG Tryz.prog 31 1 1:=⟨by kernel_rfl⟩
instance fa_36_1:EG Tryz.prog 36 1 1:=⟨by kernel_rfl⟩
instance fa_101_5:EG Tryz.prog 101 5 5:=⟨by kernel_rfl⟩
instance fa_36_2:EG Tryz.prog 36 2 2:=⟨by kernel_rfl⟩
instance fa_36_4:EG Tryz.prog 36 4 4:=⟨by kernel_rfl⟩
instance fa_36_5:EG Tryz.prog 36 5 5:=⟨by kernel_rfl⟩
instance fa_36_6:EG Tryz.prog 36 6 6:=⟨by kernel_rfl⟩
instance fa_160_1:EG Tryz.prog 160 1 11:=⟨by kernel_rfl⟩
instance fa_60_1:EG Tryz.prog 60 1 1:=⟨by kernel_rfl⟩
instance fa_106_2:EG Tryz.prog 106 2 2:=⟨by kernel_rfl⟩
instance fa_117_1:EG Tryz.prog 117 1 1:=⟨by kernel_rfl⟩
instance fa_106_3:EG Tryz.prog 106 3 3:=⟨by kernel_rfl⟩
instance fa_232_1:EG Tryz.prog 232 1 1:=⟨by kernel_rfl⟩
instance fa_160_0:EG Tryz.prog 160 0 0:=⟨by kernel_rfl⟩
instance fa_160_2:EG Tryz.prog 160 2 16:=⟨by kernel_rfl⟩
instance fa_232_0:EG Tryz.prog 232 0 0:=⟨by kernel_rfl⟩
instance fa_60_2:EG Tryz.prog 60 2 2:=⟨by kernel_rfl⟩
instance fa_117_6:EG Tryz.prog 117 6 7:=⟨by kernel_rfl⟩
instance fa_106_1:EG Tryz.prog 106 1 1:=⟨by kernel_rfl⟩
instance fa_210_0:EG Tryz.prog 210 0 0:=⟨by kernel_rfl⟩
instance fa_210_1:EG Tryz.prog 210 1 1:=⟨by kernel_rfl⟩
instance fa_106_0:EG Tryz.prog 106 0 0:=⟨by kernel_rfl⟩
instance fa_117_7:EG Tryz.prog 117 7 8:=⟨by kernel_rfl⟩
instance fa_60_4:EG Tryz.prog 60 4 4:=⟨by kernel_rfl⟩
instance fa_251_0:EG Tryz.prog 251 0 0:=⟨by kernel_rfl⟩
instance fa_251_1:EG Tryz.prog 251 1 1:=⟨by kernel_rfl⟩
instance fa_251_2:EG Tryz.prog 251 2 2:=⟨by kernel_rfl⟩
instance fa_251_3:EG Tryz.prog 251 3 3:=⟨by kernel_rfl⟩
instance fa_36_3:EG Tryz.prog 36 3 3:=⟨by kernel_rfl⟩
instance fa_121_2:EG Tryz.prog 121 2 2:=⟨by kernel_rfl⟩
instance fa_60_0:EG Tryz.prog 60 0 0:=⟨by kernel_rfl⟩
instance fa_160_3:EG Tryz.prog 160 3 23:=⟨by kernel_rfl⟩
instance fa_36_0:EG Tryz.prog 36 0 0:=⟨by kernel_rfl⟩
instance fa_121_0:EG Tryz.prog 121 0 0:=⟨by kernel_rfl⟩
instance fa_121_1:EG Tryz.prog 121 1 1:=⟨by kernel_rfl⟩
instance fa_160_4:EG Tryz.prog 160 4 24:=⟨by kernel_rfl⟩
instance fa_117_12:EG Tryz.prog 117 12 13:=⟨by kernel_rfl⟩
instance fa_117_13:EG Tryz.prog 117 13 14:=⟨by kernel_rfl⟩
instance fa_117_2:EG Tryz.prog 117 2 2:=⟨by kernel_rfl⟩
instance fa_60_3:EG Tryz.prog 60 3 3:=⟨by kernel_rfl⟩
instance fa_243_1:EG Tryz.prog 243 1 1:=⟨by kernel_rfl⟩
instance fa_243_2:EG Tryz.prog 243 2 2:=⟨by kernel_rfl⟩
instance fa_243_0:EG Tryz.prog 243 0 0:=⟨by kernel_rfl⟩
instance fa_243_3:EG Tryz.prog 243 3 3:=⟨by kernel_rfl⟩
instance fa_101_2:EG Tryz.prog 101 2 2:=⟨by kernel_rfl⟩
instance fa_117_3:EG Tryz.prog 117 3 3:=⟨by kernel_rfl⟩
instance fa_117_14:EG Tryz.prog 117 14 15:=⟨by kernel_rfl⟩
instance fa_117_15:EG Tryz.prog 117 15 16:=⟨by kernel_rfl⟩
instance fa_137_0:EG Tryz.prog 137 0 0:=⟨by kernel_rfl⟩
instance fa_137_1:EG Tryz.prog 137 1 1:=⟨by kernel_rfl⟩
instance fa_117_8:EG Tryz.prog 117 8 9:=⟨by kernel_rfl⟩
instance fa_117_10:EG Tryz.prog 117 10 11:=⟨by kernel_rfl⟩
instance fa_117_11:EG Tryz.prog 117 11 12:=⟨by kernel_rfl⟩
instance fa_117_9:EG Tryz.prog 117 9 10:=⟨by kernel_rfl⟩
instance fa_117_4:EG Tryz.prog 117 4 4:=⟨by kernel_rfl⟩
instance fa_117_16:EG Tryz.prog 117 16 17:=⟨by kernel_rfl⟩
instance fa_259_3:EG Tryz.prog 259 3 3:=⟨by kernel_rfl⟩
instance fa_259_0:EG Tryz.prog 259 0 0:=⟨by kernel_rfl⟩
instance fa_259_2:EG Tryz.prog 259 2 2:=⟨by kernel_rfl⟩
instance fa_160_5:EG Tryz.prog 160 5 25:=⟨by kernel_rfl⟩
instance fa_259_1:EG Tryz.prog 259 1 1:=⟨by kernel_rfl⟩
instance fa_101_7:EG Tryz.prog 101 7 7:=⟨by kernel_rfl⟩
instance fa_101_6:EG Tryz.prog 101 6 6:=⟨by kernel_rfl⟩
instance fa_101_8:EG Tryz.prog 101 8 8:=⟨by kernel_rfl⟩
instance fa_101_9:EG Tryz.prog 101 9 9:=⟨by kernel_rfl⟩
instance fa_101_3:EG Tryz.prog 101 3 3:=⟨by kernel_rfl⟩
instance fa_74_1:EG Tryz.prog 74 1 1:=⟨by kernel_rfl⟩
instance fa_74_0:EG Tryz.prog 74 0 0:=⟨by kernel_rfl⟩
instance fa_74_4:EG Tryz.prog 74 4 4:=⟨by kernel_rfl⟩
instance fa_315_1:EG Tryz.prog 315 1 1:=⟨by kernel_rfl⟩
instance fa_315_0:EG Tryz.prog 315 0 0:=⟨by kernel_rfl⟩
instance fa_74_2:EG Tryz.prog 74 2 2:=⟨by kernel_rfl⟩
instance fa_74_3:EG Tryz.prog 74 3 3:=⟨by kernel_rfl⟩
instance fa_31_0:EG Tryz.prog 31 0 0:=⟨by kernel_rfl⟩
instance fa_31_2:EG Tryz.prog 31 2 2:=⟨by kernel_rfl⟩
instance fa_31_5:EG Tryz.prog 31 5 5:=⟨by kernel_rfl⟩
instance fa_31_6:EG Tryz.prog 31 6 6:=⟨by kernel_rfl⟩
instance fa_31_7:EG Tryz.prog 31 7 7:=⟨by kernel_rfl⟩
instance fa_31_8:EG Tryz.prog 31 8 8:=⟨by kernel_rfl⟩
instance fa_31_9:EG Tryz.prog 31 9 9:=⟨by kernel_rfl⟩
instance fa_31_10:EG Tryz.prog 31 10 10:=⟨by kernel_rfl⟩
instance fa_101_0:EG Tryz.prog 101 0 0:=⟨by kernel_rfl⟩
instance fa_117_0:EG Tryz.prog 117 0 0:=⟨by kernel_rfl⟩
instance fa_139_0:EG Tryz.prog 139 0 0:=⟨by kernel_rfl⟩
instance fa_215_0:EG Tryz.prog 215 0 0:=⟨by kernel_rfl⟩
instance fa_217_0:EG Tryz.prog 217 0 0:=⟨by kernel_rfl⟩
instance fa_219_0:EG Tryz.prog 219 0 0:=⟨by kernel_rfl⟩
instance fa_101_1:EG Tryz.prog 101 1 1:=⟨by kernel_rfl⟩
instance fa_101_10:EG Tryz.prog 101 10 10:=⟨by kernel_rfl⟩
instance fa_101_4:EG Tryz.prog 101 4 4:=⟨by kernel_rfl⟩
instance fa_101_11:EG Tryz.prog 101 11 11:=⟨by kernel_rfl⟩
instance fa_290_0:EG Tryz.prog 290 0 0:=⟨by kernel_rfl⟩
instance fa_290_1:EG Tryz.prog 290 1 1:=⟨by kernel_rfl⟩
instance fa_117_5:EG Tryz.prog 117 5 5:=⟨by kernel_rfl⟩
instance fa_115_0:EG Tryz.prog 115 0 0:=⟨by kernel_rfl⟩
instance fa_115_1:EG Tryz.prog 115 1 1:=⟨by kernel_rfl⟩
instance fa_139_1:EG Tryz.prog 139 1 1:=⟨by kernel_rfl⟩
instance fa_139_2:EG Tryz.prog 139 2 2:=⟨by kernel_rfl⟩
instance fa_139_3:EG Tryz.prog 139 3 3:=⟨by kernel_rfl⟩
instance fa_139_4:EG Tryz.prog 139 4 4:=⟨by kernel_rfl⟩
instance fa_139_5:EG Tryz.prog 139 5 5:=⟨by kernel_rfl⟩
instance fa_139_6:EG Tryz.prog 139 6 6:=⟨by kernel_rfl⟩
instance fa_215_1:EG Tryz.prog 215 1 1:=⟨by kernel_rfl⟩
instance fa_217_1:EG Tryz.prog 217 1 1:=⟨by kernel_rfl⟩
instance fa_217_3:EG Tryz.prog 217 3 3:=⟨by kernel_rfl⟩
instance fa_217_4:EG Tryz.prog 217 4 4:=⟨by kernel_rfl⟩
instance fa_217_2:EG Tryz.prog 217 2 2:=⟨by kernel_rfl⟩
instance fa_219_1:EG Tryz.prog 219 1 1:=⟨by kernel_rfl⟩
instance fa_219_2:EG Tryz.prog 219 2 2:=⟨by kernel_rfl⟩
instance fa_219_3:EG Tryz.prog 219 3 3:=⟨by kernel_rfl⟩
instance fa_219_4:EG Tryz.prog 219 4 4:=⟨by kernel_rfl⟩
instance fa_219_6:EG Tryz.prog 219 6 6:=⟨by kernel_rfl⟩
instance fa_219_5:EG Tryz.prog 219 5 5:=⟨by kernel_rfl⟩
instance fa_178_1:EG Tryz.prog 178 1 1:=⟨by kernel_rfl⟩
instance fa_178_0:EG Tryz.prog 178 0 0:=⟨by kernel_rfl⟩
instance fa_269_0:EG Tryz.prog 269 0 0:=⟨by kernel_rfl⟩
instance fa_269_1:EG Tryz.prog 269 1 1:=⟨by kernel_rfl⟩
instance sl_23:Pn Tryz.prog 23 101 12:=⟨by kernel_rfl⟩
instance sl_24:Pn Tryz.prog 24 117 18:=⟨by kernel_rfl⟩
instance sl_22:Pn Tryz.prog 22 9 1:=⟨by kernel_rfl⟩
instance sl_32:Pn Tryz.prog 32 29 1:=⟨by kernel_rfl⟩
instance sl_78:Pn Tryz.prog 78 60 5:=⟨by kernel_rfl⟩
instance sl_55:Pn Tryz.prog 55 232 2:=⟨by kernel_rfl⟩
instance sl_34:Pn Tryz.prog 34 106 4:=⟨by kernel_rfl⟩
instance sl_56:Pn Tryz.prog 56 210 2:=⟨by kernel_rfl⟩
instance sl_58:Pn Tryz.prog 58 251 4:=⟨by kernel_rfl⟩
instance sl_29:Pn Tryz.prog 29 3 1:=⟨by kernel_rfl⟩
instance sl_33:Pn Tryz.prog 33 121 3:=⟨by kernel_rfl⟩
instance sl_57:Pn Tryz.prog 57 243 4:=⟨by kernel_rfl⟩
instance sl_98:Pn Tryz.prog 98 137 2:=⟨by kernel_rfl⟩
instance sl_304:Pn Tryz.prog 304 255 1:=⟨by kernel_rfl⟩
instance sl_255:Pn Tryz.prog 255 259 4:=⟨by kernel_rfl⟩
instance sl_70:Pn Tryz.prog 70 74 5:=⟨by kernel_rfl⟩
instance sl_267:Pn Tryz.prog 267 5 1:=⟨by kernel_rfl⟩
instance sl_25:Pn Tryz.prog 25 139 7:=⟨by kernel_rfl⟩
instance sl_26:Pn Tryz.prog 26 217 5:=⟨by kernel_rfl⟩
instance sl_27:Pn Tryz.prog 27 219 7:=⟨by kernel_rfl⟩
instance sl_28:Pn Tryz.prog 28 215 2:=⟨by kernel_rfl⟩
instance sl_99:Pn Tryz.prog 99 290 2:=⟨by kernel_rfl⟩
instance sl_354:Pn Tryz.prog 354 98 1:=⟨by kernel_rfl⟩
instance sl_80:Pn Tryz.prog 80 36 7:=⟨by kernel_rfl⟩
instance ty_101:O5 Tryz.prog 101 12:=⟨by kernel_rfl⟩
instance ty_31:O5 Tryz.prog 31 11:=⟨by kernel_rfl⟩
instance ty_23:Fc (Ie Tryz.prog 23 1 false=true):=⟨by kernel_rfl⟩
instance ty_24:Fc (Ie Tryz.prog 24 1 false=true):=⟨by kernel_rfl⟩
instance ty_22:Fc (Ie Tryz.prog 22 1 false=true):=⟨by kernel_rfl⟩
instance ty_36:O5 Tryz.prog 36 7:=⟨by kernel_rfl⟩
instance ty_32:Fc (Ie Tryz.prog 32 1 false=true):=⟨by kernel_rfl⟩
instance ty_29:Fc (Ie Tryz.prog 29 1 false=true):=⟨by kernel_rfl⟩
instance ty_34:Fc (Ie Tryz.prog 34 1 false=true):=⟨by kernel_rfl⟩
instance ty_60:O5 Tryz.prog 60 5:=⟨by kernel_rfl⟩
instance ty_160:O5 Tryz.prog 160 26:=⟨by kernel_rfl⟩
instance ty_55:Fc (Ie Tryz.prog 55 1 false=true):=⟨by kernel_rfl⟩
instance ty_4:Fc (Ie Tryz.prog 4 1 false=true):=⟨by kernel_rfl⟩
instance ty_3:Fc (Ie Tryz.prog 3 1 false=true):=⟨by kernel_rfl⟩
instance ty_106:O5 Tryz.prog 106 4:=⟨by kernel_rfl⟩
instance ty_232:O5 Tryz.prog 232 2:=⟨by kernel_rfl⟩
instance ty_117:O5 Tryz.prog 117 18:=⟨by kernel_rfl⟩
instance ty_56:Fc (Ie Tryz.prog 56 1 false=true):=⟨by kernel_rfl⟩
instance ty_210:O5 Tryz.prog 210 2:=⟨by kernel_rfl⟩
instance ty_58:Fc (Ie Tryz.prog 58 1 false=true):=⟨by kernel_rfl⟩
instance ty_251:O5 Tryz.prog 251 4:=⟨by kernel_rfl⟩
instance ty_33:Fc (Ie Tryz.prog 33 1 false=true):=⟨by kernel_rfl⟩
instance ty_121:O5 Tryz.prog 121 3:=⟨by kernel_rfl⟩
instance ty_70:Fc (Ie Tryz.prog 70 1 false=true):=⟨by kernel_rfl⟩
instance ty_57:Fc (Ie Tryz.prog 57 1 false=true):=⟨by kernel_rfl⟩
instance ty_243:O5 Tryz.prog 243 4:=⟨by kernel_rfl⟩
instance ty_137:O5 Tryz.prog 137 2:=⟨by kernel_rfl⟩
instance ty_98:Fc (Ie Tryz.prog 98 1 false=true):=⟨by kernel_rfl⟩
instance ty_255:Fc (Ie Tryz.prog 255 1 false=true):=⟨by kernel_rfl⟩
instance ty_257:Fc (Ie Tryz.prog 257 1 false=true):=⟨by kernel_rfl⟩
instance ty_259:O5 Tryz.prog 259 4:=⟨by kernel_rfl⟩
instance ty_74:O5 Tryz.prog 74 5:=⟨by kernel_rfl⟩
instance ty_9:Fc (Ie Tryz.prog 9 1 false=true):=⟨by kernel_rfl⟩
instance ty_5:Fc (Ie Tryz.prog 5 1 false=true):=⟨by kernel_rfl⟩
instance ty_25:Fc (Ie Tryz.prog 25 1 false=true):=⟨by kernel_rfl⟩
instance ty_26:Fc (Ie Tryz.prog 26 1 false=true):=⟨by kernel_rfl⟩
instance ty_27:Fc (Ie Tryz.prog 27 1 false=true):=⟨by kernel_rfl⟩
instance ty_28:Fc (Ie Tryz.prog 28 1 false=true):=⟨by kernel_rfl⟩
instance ty_319:Fc (Ie Tryz.prog 319 1 false=true):=⟨by kernel_rfl⟩
instance ty_353:O5 Tryz.prog 353 2:=⟨by kernel_rfl⟩
instance ty_139:O5 Tryz.prog 139 7:=⟨by kernel_rfl⟩
instance ty_215:O5 Tryz.prog 215 2:=⟨by kernel_rfl⟩
instance ty_217:O5 Tryz.prog 217 5:=⟨by kernel_rfl⟩
instance ty_219:O5 Tryz.prog 219 7:=⟨by kernel_rfl⟩
instance ty_99:Fc (Ie Tryz.prog 99 1 false=true):=⟨by kernel_rfl⟩
instance ty_290:O5 Tryz.prog 290 2:=⟨by kernel_rfl⟩
instance ty_323:O5 Tryz.prog 323 3:=⟨by kernel_rfl⟩
instance ty_176:Fc (Ie Tryz.prog 176 1 false=true):=⟨by kernel_rfl⟩
instance ty_178:O5 Tryz.prog 178 2:=⟨by kernel_rfl⟩
instance ty_175:O5 Tryz.prog 175 3:=⟨by kernel_rfl⟩
instance ty_266:Fc (Ie Tryz.prog 266 1 false=true):=⟨by kernel_rfl⟩
instance ty_267:Fc (Ie Tryz.prog 267 1 false=true):=⟨by kernel_rfl⟩
instance:EE B9 0 AB (·.Ax):=⟨Tq⟩
instance:EE B9 1 AB (·.Ay):=⟨Qs⟩
instance:EE KG 0 AB (·.Bg):=⟨RO⟩
instance:EE KG 1 AB (·.Bk):=⟨SQ⟩
instance:EE BX 0 BB.str (·.C):=⟨Cb.f_Name⟩
instance:EE BX 1 AB (·.L):=⟨Cb.f_Kind⟩
instance:EE BX 2 AB (·.Al):=⟨Mz⟩
instance:EE BX 3 AB (·.Az):=⟨SO⟩
instance:EE BX 4 (BB.sl B9) (·.Bt):=⟨Qu⟩
instance:EE BX 5 (BB.sl AB) (·.Bf):=⟨Qt⟩
instance:EE BX 6 AB (·.T):=⟨Cb.f_Num⟩
instance:EE BX 7 AB (·.S):=⟨Cb.f_Den⟩
instance:EE BX 8 AB (·.Ac):=⟨RL⟩
instance:EE BX 9 AB (·.M):=⟨Cb.f_Delay⟩
instance:EE BX 10 AB (·.Be):=⟨Qv⟩
instance:EE BX 11 (BB.sl KG) (·.Aa):=⟨Cb.f_Rain⟩
instance:EE MA 0 (BB.sl B9) (·.Ba):=⟨Om⟩
instance:EE MA 1 (BB.sl B9) (·.Bb):=⟨On⟩
instance:EE Bu 0 BB.str (·.C):=⟨BY.f_Name⟩
instance:EE Bu 1 AB (·.L):=⟨BY.f_Kind⟩
instance:EE Bu 2 AB (·.D):=⟨BY.f_From⟩
instance:EE Bu 3 AB (·.B):=⟨BY.f_To⟩
instance:EE Bu 4 (BB.sl B9) (·.Bd):=⟨KH⟩
instance:EE Bu 5 MA (·.Ao):=⟨KI⟩
instance:EE Bu 7 AB (·.Ad):=⟨Dm⟩
instance:EE Bu 8 AB (·.Ar):=⟨JK⟩
instance:EE Bu 9 AB (·.Au):=⟨Mt⟩
instance:EE Bu 10 AB (·.Av):=⟨MB⟩
instance:EE Bu 11 AB (·.T):=⟨BY.f_Num⟩
instance:EE Bu 12 AB (·.S):=⟨BY.f_Den⟩
instance:EE Bu 13 AB (·.As):=⟨OJ⟩
instance:EE Bu 14 AB (·.At):=⟨OK⟩
instance:EE Bu 15 AB (·.Ap):=⟨H3⟩
instance:EE Bu 16 AB (·.Am):=⟨H4⟩
instance:EE Bu 17 AB (·.M):=⟨BY.f_Delay⟩
instance:EE DL 0 BB.str (·.C):=⟨IK.f_Name⟩
instance:EE DL 1 AB (·.Ab):=⟨IK.f_Place⟩
instance:EE DL 2 AB (·.Bl):=⟨RI⟩
instance:EE DL 3 AB (·.Bm):=⟨SK⟩
instance:EE DL 4 AB (·.Bn):=⟨Qr⟩
instance:EE DL 5 AB (·.Bo):=⟨RH⟩
instance:EE DL 6 AB (·.Bp):=⟨Qq⟩
instance:EE Cw 0 BB.str (·.C):=⟨Hi.f_Name⟩
instance:EE Cw 1 AB (·.L):=⟨Hi.f_Kind⟩
instance:EE Cw 2 AB (·.V):=⟨Hi.f_Target⟩
instance:EE Cw 3 AB (·.G):=⟨Hi.f_Err⟩
instance:EE Cw 4 AB (·.Bq):=⟨Qz⟩
instance:EE DM 0 BB.str (·.C):=⟨IL.f_Name⟩
instance:EE DM 1 AB (·.D):=⟨IL.f_From⟩
instance:EE DM 2 AB (·.B):=⟨IL.f_To⟩
instance:EE DM 3 AB (·.Br):=⟨RK⟩
instance:EE DM 4 AB (·.Bs):=⟨SL⟩
instance:EE DM 5 AB (·.Bh):=⟨Tp⟩
instance:EE DM 6 AB (·.Bi):=⟨RJ⟩
instance:EE Cd 0 BB.str (·.C):=⟨G6.f_Name⟩
instance:EE Cd 1 AB (·.X):=⟨G6.f_Room⟩
instance:EE BW 0 BB.str (·.C):=⟨AO.f_Name⟩
instance:EE BW 1 (BB.sl BB.str) (·.I):=⟨Fp⟩
instance:EE BW 2 AB (·.H):=⟨Lh⟩
instance:EE BW 3 (BB.sl BX) (·.E):=⟨B3⟩
instance:EE BW 4 (BB.sl Bu) (·.J):=⟨Ec⟩
instance:EE BW 5 (BB.sl DL) (·.U):=⟨Id⟩
instance:EE BW 6 (BB.sl Cw) (·.W):=⟨JY⟩
instance:EE BW 7 (BB.sl DM) (·.Y):=⟨KK⟩
instance:EE BW 8 (BB.sl Cd) (·.Z):=⟨IM⟩
instance:EE BW 9 (BB.sl AB) (·.X):=⟨AO.f_Room⟩
instance:EE BW 10 AB (·.G):=⟨AO.f_Err⟩
instance:EE A3 0 AB (·.Aq):=⟨Tr⟩
instance:EE A3 1 AB (·.B):=⟨BM.f_To⟩
instance:EE A3 2 (BB.sl AB) (·.R):=⟨BM.f_Part⟩
instance:EE BK 0 AB (·.Ah):=⟨Po⟩
instance:EE BK 1 AB (·.V):=⟨BE.f_Target⟩
instance:EE BK 2 BB.bool (·.An):=⟨RN⟩
instance:EE BK 3 BB.bool (·.Ae):=⟨SP⟩
instance:EE A7 0 AB (·.A):=⟨AJ.f_Hour⟩
instance:EE A7 1 (BB.sl (BB.sl AB)) (·.F):=⟨Dg⟩
instance:EE A7 2 (BB.sl AB) (·.K):=⟨Iz⟩
instance:EE A7 3 (BB.sl A3) (·.P):=⟨Dt⟩
instance:EE A7 4 (BB.sl BK) (·.Q):=⟨Hh⟩
instance:EE A7 5 (BB.sl AB) (·.O):=⟨Hm⟩
instance:EE A7 6 (BB.sl AB) (·.N):=⟨FE⟩
instance:EE D0 0 AB (·.L):=⟨KJ.f_Kind⟩
instance:EE D0 1 AB (·.Af):=⟨KJ.f_Link⟩
instance:EE H2 0 AB (·.Af):=⟨PC.f_Link⟩
instance:EE H2 1 AB (·.V):=⟨PC.f_Target⟩
instance:EE D3 0 AB (·.Ab):=⟨I0.f_Place⟩
instance:EE D3 1 AB (·.Bj):=⟨OI⟩
instance:EE D3 2 AB (·.Bc):=⟨I0.f_Litres⟩
instance:EE D3 3 AB (·.B):=⟨I0.f_To⟩
instance:EE Ea 0 AB (·.Ab):=⟨KQ.f_Place⟩
instance:EE Ea 1 AB (·.D):=⟨KQ.f_From⟩
instance:EE Ea 2 AB (·.B):=⟨KQ.f_To⟩
instance:EE Ea 3 AB (·.Bc):=⟨KQ.f_Litres⟩
instance:EE DD 0 (BB.sl AB) (·.Aa):=⟨E5.f_Rain⟩
instance:EE DD 1 (BB.sl D0) (·.Ai):=⟨P3⟩
instance:EE DD 2 (BB.sl H2) (·.Aj):=⟨RM⟩
instance:EE DD 3 (BB.sl D3) (·.Ak):=⟨Qw⟩
instance:EE DD 4 (BB.sl Ea) (·.Ag):=⟨Qy⟩
instance:EE BJ 0 AB (·.A):=⟨AX.f_Hour⟩
instance:EE BJ 1 AB (·.D):=⟨AX.f_From⟩
instance:EE BJ 2 AB (·.B):=⟨AX.f_To⟩
instance:EE BJ 3 AB (·.Aw):=⟨TE⟩
instance:EE BJ 4 (BB.sl AB) (·.R):=⟨AX.f_Part⟩
instance:EE DH 0 BW (·.b):=⟨Qo⟩
instance:EE DH 11 DD (·.in_):=⟨Pa⟩
instance:EE DH 16 A7 (·.s):=⟨Qn⟩
instance:EE DH 23 (BB.sl BJ) (·.moves):=⟨Ok⟩
instance:EE DH 24 (BB.sl AB) (·.peaks):=⟨Oj⟩
instance:EE DH 25 (BB.sl A3) (·.sent):=⟨PB⟩
instance:EE A0 0 AB (·.to_):=⟨KY⟩
instance:EE A0 1 AB (·.delay):=⟨Lf⟩
instance:EE A0 2 AB (·.way):=⟨MW⟩
instance:EE A0 3 (BB.fnr Tryz.prog (λS h vs (x:(List Int))=>∃w0:Value,vs=[w0]∧Sl S h AB w0 x) (λS h v (y:((List Int)×(List Int)))=>∃w0 w1:Value,v= .tuple #[w0,w1]∧Sl S h AB w0 y.1∧Sl S h AB w1 y.2)) (·.take):=⟨Lt⟩
instance:EE Da 0 BB.str (·.rest_):=⟨Kr⟩
instance:EE Da 1 BB.bool (·.bad):=⟨Le⟩
instance:EE G4 0 BB.str (·.group):=⟨OC⟩
instance:EE G4 1 BB.str (·.name):=⟨Ol⟩
instance:EE Fo 0 AB (·.hi):=⟨Qp⟩
instance:EE Fo 1 (BB.intk .u64) (·.lo):=⟨Lg⟩
instance:EE EJ 0 AB (·.sort):=⟨OB⟩
instance:EE EJ 1 AB (·.place):=⟨Nq⟩
instance:EE EJ 2 AB (·.owner):=⟨Nr⟩
end Go.Proofs.YtedgiljmffngoaaGreat
