import Derived.Test.YtibidnaedddfdaaGreatEFacts
import Derived.Test.YtibidnaedddfdaaGreatECore42
import Derived.Test.YtibidnaedddfdaaGreatEForms
namespace Go.Proofs.YtibidnaedddfdaaGreat
set_option linter.all false
instance fa_36_1:Hc Tryz.prog 36 1 1:=⟨by kernel_rfl⟩
instance fa_36_3:Hc Tryz.prog 36 3 3:=⟨by kernel_rfl⟩
instance fa_31_3:Hc Tryz.prog 31 3 3:=⟨by kernel_rfl⟩
instance fa_42_1:Hc Tryz.prog 42 1 1:=⟨by kernel_rfl⟩
instance fa_171_1:Hc Tryz.prog 171 1 1:=⟨by kernel_rfl⟩
instance fa_106_0:Hc Tryz.prog 106 0 0:=⟨by kernel_rfl⟩
instance fa_31_4:Hc Tryz.prog 31 4 4:=⟨by kernel_rfl⟩
instance fa_102_1:Hc Tryz.prog 102 1 1:=⟨by kernel_rfl⟩
instance fa_171_0:Hc Tryz.prog 171 0 0:=⟨by kernel_rfl⟩
instance fa_106_1:Hc Tryz.prog 106 1 11:=⟨by kernel_rfl⟩
instance fa_97_2:Hc Tryz.prog 97 2 3:=⟨by kernel_rfl⟩
instance fa_42_2:Hc Tryz.prog 42 2 2:=⟨by kernel_rfl⟩
instance fa_102_6:Hc Tryz.prog 102 6 7:=⟨by kernel_rfl⟩
instance fa_81_1:Hc Tryz.prog 81 1 1:=⟨by kernel_rfl⟩
instance fa_173_0:Hc Tryz.prog 173 0 0:=⟨by kernel_rfl⟩
instance fa_97_1:Hc Tryz.prog 97 1 2:=⟨by kernel_rfl⟩
instance fa_173_1:Hc Tryz.prog 173 1 1:=⟨by kernel_rfl⟩
instance fa_81_2:Hc Tryz.prog 81 2 2:=⟨by kernel_rfl⟩
instance fa_81_0:Hc Tryz.prog 81 0 0:=⟨by kernel_rfl⟩
instance fa_102_7:Hc Tryz.prog 102 7 8:=⟨by kernel_rfl⟩
instance fa_97_0:Hc Tryz.prog 97 0 0:=⟨by kernel_rfl⟩
instance fa_51_0:Hc Tryz.prog 51 0 0:=⟨by kernel_rfl⟩
instance fa_51_1:Hc Tryz.prog 51 1 1:=⟨by kernel_rfl⟩
instance fa_106_2:Hc Tryz.prog 106 2 15:=⟨by kernel_rfl⟩
instance fa_36_2:Hc Tryz.prog 36 2 2:=⟨by kernel_rfl⟩
instance fa_93_0:Hc Tryz.prog 93 0 0:=⟨by kernel_rfl⟩
instance fa_36_0:Hc Tryz.prog 36 0 0:=⟨by kernel_rfl⟩
instance fa_93_1:Hc Tryz.prog 93 1 1:=⟨by kernel_rfl⟩
instance fa_93_2:Hc Tryz.prog 93 2 2:=⟨by kernel_rfl⟩
instance fa_102_13:Hc Tryz.prog 102 13 14:=⟨by kernel_rfl⟩
instance fa_102_12:Hc Tryz.prog 102 12 13:=⟨by kernel_rfl⟩
instance fa_81_3:Hc Tryz.prog 81 3 3:=⟨by kernel_rfl⟩
instance fa_102_2:Hc Tryz.prog 102 2 2:=⟨by kernel_rfl⟩
instance fa_184_2:Hc Tryz.prog 184 2 2:=⟨by kernel_rfl⟩
instance fa_184_0:Hc Tryz.prog 184 0 0:=⟨by kernel_rfl⟩
instance fa_184_1:Hc Tryz.prog 184 1 1:=⟨by kernel_rfl⟩
instance fa_31_1:Hc Tryz.prog 31 1 1:=⟨by kernel_rfl⟩
instance fa_184_3:Hc Tryz.prog 184 3 3:=⟨by kernel_rfl⟩
instance fa_57_2:Hc Tryz.prog 57 2 2:=⟨by kernel_rfl⟩
instance fa_102_3:Hc Tryz.prog 102 3 3:=⟨by kernel_rfl⟩
instance fa_102_14:Hc Tryz.prog 102 14 15:=⟨by kernel_rfl⟩
instance fa_102_15:Hc Tryz.prog 102 15 16:=⟨by kernel_rfl⟩
instance fa_90_0:Hc Tryz.prog 90 0 0:=⟨by kernel_rfl⟩
instance fa_90_1:Hc Tryz.prog 90 1 1:=⟨by kernel_rfl⟩
instance fa_102_8:Hc Tryz.prog 102 8 9:=⟨by kernel_rfl⟩
instance fa_102_10:Hc Tryz.prog 102 10 11:=⟨by kernel_rfl⟩
instance fa_102_11:Hc Tryz.prog 102 11 12:=⟨by kernel_rfl⟩
instance fa_102_9:Hc Tryz.prog 102 9 10:=⟨by kernel_rfl⟩
instance fa_102_5:Hc Tryz.prog 102 5 5:=⟨by kernel_rfl⟩
instance fa_100_0:Hc Tryz.prog 100 0 0:=⟨by kernel_rfl⟩
instance fa_100_1:Hc Tryz.prog 100 1 1:=⟨by kernel_rfl⟩
instance fa_102_16:Hc Tryz.prog 102 16 17:=⟨by kernel_rfl⟩
instance fa_57_7:Hc Tryz.prog 57 7 7:=⟨by kernel_rfl⟩
instance fa_57_6:Hc Tryz.prog 57 6 6:=⟨by kernel_rfl⟩
instance fa_57_8:Hc Tryz.prog 57 8 8:=⟨by kernel_rfl⟩
instance fa_57_9:Hc Tryz.prog 57 9 9:=⟨by kernel_rfl⟩
instance fa_181_3:Hc Tryz.prog 181 3 3:=⟨by kernel_rfl⟩
instance fa_181_0:Hc Tryz.prog 181 0 0:=⟨by kernel_rfl⟩
instance fa_181_1:Hc Tryz.prog 181 1 1:=⟨by kernel_rfl⟩
instance fa_181_2:Hc Tryz.prog 181 2 2:=⟨by kernel_rfl⟩
instance fa_57_3:Hc Tryz.prog 57 3 3:=⟨by kernel_rfl⟩
instance fa_42_3:Hc Tryz.prog 42 3 3:=⟨by kernel_rfl⟩
instance fa_57_5:Hc Tryz.prog 57 5 5:=⟨by kernel_rfl⟩
instance fa_42_0:Hc Tryz.prog 42 0 0:=⟨by kernel_rfl⟩
instance fa_42_4:Hc Tryz.prog 42 4 4:=⟨by kernel_rfl⟩
instance fa_31_0:Hc Tryz.prog 31 0 0:=⟨by kernel_rfl⟩
instance fa_31_2:Hc Tryz.prog 31 2 2:=⟨by kernel_rfl⟩
instance fa_31_5:Hc Tryz.prog 31 5 5:=⟨by kernel_rfl⟩
instance fa_31_6:Hc Tryz.prog 31 6 6:=⟨by kernel_rfl⟩
instance fa_31_7:Hc Tryz.prog 31 7 7:=⟨by kernel_rfl⟩
instance fa_31_8:Hc Tryz.prog 31 8 8:=⟨by kernel_rfl⟩
instance fa_31_9:Hc Tryz.prog 31 9 9:=⟨by kernel_rfl⟩
instance fa_31_10:Hc Tryz.prog 31 10 10:=⟨by kernel_rfl⟩
instance fa_57_0:Hc Tryz.prog 57 0 0:=⟨by kernel_rfl⟩
instance fa_102_0:Hc Tryz.prog 102 0 0:=⟨by kernel_rfl⟩
instance fa_114_0:Hc Tryz.prog 114 0 0:=⟨by kernel_rfl⟩
instance fa_158_0:Hc Tryz.prog 158 0 0:=⟨by kernel_rfl⟩
instance fa_147_0:Hc Tryz.prog 147 0 0:=⟨by kernel_rfl⟩
instance fa_160_0:Hc Tryz.prog 160 0 0:=⟨by kernel_rfl⟩
instance fa_57_1:Hc Tryz.prog 57 1 1:=⟨by kernel_rfl⟩
instance fa_57_10:Hc Tryz.prog 57 10 10:=⟨by kernel_rfl⟩
instance fa_57_4:Hc Tryz.prog 57 4 4:=⟨by kernel_rfl⟩
instance fa_57_11:Hc Tryz.prog 57 11 11:=⟨by kernel_rfl⟩
instance fa_164_0:Hc Tryz.prog 164 0 0:=⟨by kernel_rfl⟩
instance fa_164_1:Hc Tryz.prog 164 1 1:=⟨by kernel_rfl⟩
instance fa_102_4:Hc Tryz.prog 102 4 4:=⟨by kernel_rfl⟩
instance fa_114_1:Hc Tryz.prog 114 1 1:=⟨by kernel_rfl⟩
instance fa_114_2:Hc Tryz.prog 114 2 2:=⟨by kernel_rfl⟩
instance fa_114_3:Hc Tryz.prog 114 3 3:=⟨by kernel_rfl⟩
instance fa_114_4:Hc Tryz.prog 114 4 4:=⟨by kernel_rfl⟩
instance fa_114_5:Hc Tryz.prog 114 5 5:=⟨by kernel_rfl⟩
instance fa_114_6:Hc Tryz.prog 114 6 6:=⟨by kernel_rfl⟩
instance fa_158_1:Hc Tryz.prog 158 1 1:=⟨by kernel_rfl⟩
instance fa_147_1:Hc Tryz.prog 147 1 1:=⟨by kernel_rfl⟩
instance fa_147_3:Hc Tryz.prog 147 3 3:=⟨by kernel_rfl⟩
instance fa_147_4:Hc Tryz.prog 147 4 4:=⟨by kernel_rfl⟩
instance fa_147_2:Hc Tryz.prog 147 2 2:=⟨by kernel_rfl⟩
instance fa_160_1:Hc Tryz.prog 160 1 1:=⟨by kernel_rfl⟩
instance fa_160_2:Hc Tryz.prog 160 2 2:=⟨by kernel_rfl⟩
instance fa_160_3:Hc Tryz.prog 160 3 3:=⟨by kernel_rfl⟩
instance fa_160_4:Hc Tryz.prog 160 4 4:=⟨by kernel_rfl⟩
instance fa_160_6:Hc Tryz.prog 160 6 6:=⟨by kernel_rfl⟩
instance fa_160_5:Hc Tryz.prog 160 5 5:=⟨by kernel_rfl⟩
instance fa_141_1:Hc Tryz.prog 141 1 11:=⟨by kernel_rfl⟩
instance fa_141_0:Hc Tryz.prog 141 0 0:=⟨by kernel_rfl⟩
instance fa_141_2:Hc Tryz.prog 141 2 15:=⟨by kernel_rfl⟩
instance fa_204_0:Hc Tryz.prog 204 0 0:=⟨by kernel_rfl⟩
instance fa_204_1:Hc Tryz.prog 204 1 1:=⟨by kernel_rfl⟩
instance fa_204_2:Hc Tryz.prog 204 2 2:=⟨by kernel_rfl⟩
instance fa_204_3:Hc Tryz.prog 204 3 3:=⟨by kernel_rfl⟩
instance fa_64_0:Hc Tryz.prog 64 0 0:=⟨by kernel_rfl⟩
instance fa_64_1:Hc Tryz.prog 64 1 1:=⟨by kernel_rfl⟩
instance fa_119_0:Hc Tryz.prog 119 0 0:=⟨by kernel_rfl⟩
instance fa_119_1:Hc Tryz.prog 119 1 1:=⟨by kernel_rfl⟩
instance fa_119_2:Hc Tryz.prog 119 2 2:=⟨by kernel_rfl⟩
instance fa_123_0:Hc Tryz.prog 123 0 0:=⟨by kernel_rfl⟩
instance fa_123_1:Hc Tryz.prog 123 1 1:=⟨by kernel_rfl⟩
instance fa_123_2:Hc Tryz.prog 123 2 2:=⟨by kernel_rfl⟩
instance fa_145_0:Hc Tryz.prog 145 0 0:=⟨by kernel_rfl⟩
instance fa_145_2:Hc Tryz.prog 145 2 2:=⟨by kernel_rfl⟩
instance ty_32:Fc (LV Tryz.prog 32 1 false=true):=⟨by kernel_rfl⟩
instance ty_34:Fc (LV Tryz.prog 34 1 false=true):=⟨by kernel_rfl⟩
instance ty_23:Fc (LV Tryz.prog 23 1 false=true):=⟨by kernel_rfl⟩
instance ty_37:Fc (LV Tryz.prog 37 1 false=true):=⟨by kernel_rfl⟩
instance ty_3:Fc (LV Tryz.prog 3 1 false=true):=⟨by kernel_rfl⟩
instance ty_24:Fc (LV Tryz.prog 24 1 false=true):=⟨by kernel_rfl⟩
instance ty_38:Fc (LV Tryz.prog 38 1 false=true):=⟨by kernel_rfl⟩
instance ty_4:Fc (LV Tryz.prog 4 1 false=true):=⟨by kernel_rfl⟩
instance ty_33:Fc (LV Tryz.prog 33 1 false=true):=⟨by kernel_rfl⟩
instance ty_22:Fc (LV Tryz.prog 22 1 false=true):=⟨by kernel_rfl⟩
instance ty_54:Fc (LV Tryz.prog 54 1 false=true):=⟨by kernel_rfl⟩
instance ty_133:Fc (LV Tryz.prog 133 1 false=true):=⟨by kernel_rfl⟩
instance ty_39:Fc (LV Tryz.prog 39 1 false=true):=⟨by kernel_rfl⟩
instance ty_29:Fc (LV Tryz.prog 29 1 false=true):=⟨by kernel_rfl⟩
instance ty_40:Fc (LV Tryz.prog 40 1 false=true):=⟨by kernel_rfl⟩
instance ty_9:Fc (LV Tryz.prog 9 1 false=true):=⟨by kernel_rfl⟩
instance ty_25:Fc (LV Tryz.prog 25 1 false=true):=⟨by kernel_rfl⟩
instance ty_26:Fc (LV Tryz.prog 26 1 false=true):=⟨by kernel_rfl⟩
instance ty_27:Fc (LV Tryz.prog 27 1 false=true):=⟨by kernel_rfl⟩
instance ty_28:Fc (LV Tryz.prog 28 1 false=true):=⟨by kernel_rfl⟩
instance ty_154:Fc (LV Tryz.prog 154 1 false=true):=⟨by kernel_rfl⟩
instance ty_55:Fc (LV Tryz.prog 55 1 false=true):=⟨by kernel_rfl⟩
instance ty_121:Fc (LV Tryz.prog 121 1 false=true):=⟨by kernel_rfl⟩
instance ty_60:Fc (LV Tryz.prog 60 1 false=true):=⟨by kernel_rfl⟩
instance ty_43:Fc (LV Tryz.prog 43 1 false=true):=⟨by kernel_rfl⟩
instance sl_23:RE Tryz.prog 23 57 12:=⟨by kernel_rfl⟩
instance sl_37:RE Tryz.prog 37 171 2:=⟨by kernel_rfl⟩
instance sl_24:RE Tryz.prog 24 102 18:=⟨by kernel_rfl⟩
instance sl_34:RE Tryz.prog 34 97 5:=⟨by kernel_rfl⟩
instance sl_38:RE Tryz.prog 38 173 2:=⟨by kernel_rfl⟩
instance sl_43:RE Tryz.prog 43 4 1:=⟨by kernel_rfl⟩
instance sl_32:RE Tryz.prog 32 51 2:=⟨by kernel_rfl⟩
instance sl_33:RE Tryz.prog 33 93 4:=⟨by kernel_rfl⟩
instance sl_39:RE Tryz.prog 39 184 4:=⟨by kernel_rfl⟩
instance sl_22:RE Tryz.prog 22 9 1:=⟨by kernel_rfl⟩
instance sl_54:RE Tryz.prog 54 90 2:=⟨by kernel_rfl⟩
instance sl_110:RE Tryz.prog 110 181 4:=⟨by kernel_rfl⟩
instance sl_29:RE Tryz.prog 29 3 1:=⟨by kernel_rfl⟩
instance sl_40:RE Tryz.prog 40 260 4:=⟨by kernel_rfl⟩
instance sl_25:RE Tryz.prog 25 114 7:=⟨by kernel_rfl⟩
instance sl_26:RE Tryz.prog 26 147 5:=⟨by kernel_rfl⟩
instance sl_27:RE Tryz.prog 27 160 7:=⟨by kernel_rfl⟩
instance sl_28:RE Tryz.prog 28 158 2:=⟨by kernel_rfl⟩
instance sl_55:RE Tryz.prog 55 164 2:=⟨by kernel_rfl⟩
instance sl_217:RE Tryz.prog 217 54 1:=⟨by kernel_rfl⟩
instance sl_199:RE Tryz.prog 199 204 4:=⟨by kernel_rfl⟩
instance sl_117:RE Tryz.prog 117 64 2:=⟨by kernel_rfl⟩
instance sl_115:RE Tryz.prog 115 119 3:=⟨by kernel_rfl⟩
instance sl_59:RE Tryz.prog 59 123 3:=⟨by kernel_rfl⟩
instance sl_60:RE Tryz.prog 60 42 5:=⟨by kernel_rfl⟩
instance sl_121:RE Tryz.prog 121 32 1:=⟨by kernel_rfl⟩
instance sl_86:RE Tryz.prog 86 145 4:=⟨by kernel_rfl⟩
instance:KJ AC 0 AY (·.B):=⟨AB.f_Lo⟩
instance:KJ AC 1 AY (·.A):=⟨AB.f_Hi⟩
instance:KJ AM 2 AY (·.W):=⟨AH.f_Target⟩
instance:KJ B8 0 AY (·.H):=⟨Tf⟩
instance:KJ B8 1 AY (·.L):=⟨NG⟩
instance:KJ BI 1 AY (·.F):=⟨AO.f_Kind⟩
instance:KJ BI 3 AY (·.C):=⟨AO.f_To⟩
instance:KJ BI 7 AY (·.Y):=⟨Cv⟩
instance:KJ BI 8 AY (·.An):=⟨HB⟩
instance:KJ BI 9 AY (·.Az):=⟨Mt⟩
instance:KJ BI 10 AY (·.Au):=⟨AO.f_Crest⟩
instance:KJ BI 11 AY (·.V):=⟨AO.f_Num⟩
instance:KJ BI 12 AY (·.Q):=⟨AO.f_Den⟩
instance:KJ BI 13 AY (·.Ae):=⟨LI⟩
instance:KJ BI 14 AY (·.Aa):=⟨Jz⟩
instance:KJ BI 15 AY (·.Ak):=⟨Ip⟩
instance:KJ BI 16 AY (·.Af):=⟨Iq⟩
instance:KJ B4 2 AY (·.Aw):=⟨OX⟩
instance:KJ B4 6 AY (·.V):=⟨EU.f_Num⟩
instance:KJ B4 7 AY (·.Q):=⟨EU.f_Den⟩
instance:KJ Dn 1 AY (·.Ah):=⟨Dr.f_Place⟩
instance:KJ Dn 2 AY (·.Bd):=⟨Tu⟩
instance:KJ Dn 3 AY (·.Bf):=⟨VF⟩
instance:KJ Dn 5 AY (·.Be):=⟨Tt⟩
instance:KJ Dn 6 AY (·.Ay):=⟨Dr.f_Quorum⟩
instance:KJ De 1 AY (·.F):=⟨Id.f_Kind⟩
instance:KJ De 2 AY (·.W):=⟨Id.f_Target⟩
instance:KJ B7 2 AY (·.S):=⟨NI⟩
instance:KJ B7 10 AY (·.T):=⟨AF.f_Err⟩
instance:KJ BS 0 AY (·.O):=⟨AZ.f_At⟩
instance:KJ BS 1 AY (·.C):=⟨AZ.f_To⟩
instance:KJ DL 0 AY (·.I):=⟨BV.f_Hour⟩
instance:KJ JB 0 AY (·.F):=⟨KF.f_Kind⟩
instance:KJ JB 1 AY (·.Z):=⟨KF.f_Link⟩
instance:KJ KI 0 AY (·.Z):=⟨Nl.f_Link⟩
instance:KJ KI 1 AY (·.W):=⟨Nl.f_Target⟩
instance:KJ FX 0 AY (·.Ah):=⟨IL.f_Place⟩
instance:KJ FX 1 AY (·.Bo):=⟨QG⟩
instance:KJ FX 2 AY (·.Al):=⟨IL.f_Litres⟩
instance:KJ FX 3 AY (·.C):=⟨IL.f_To⟩
instance:KJ AL 0 AY (·.Bk):=⟨LH⟩
instance:KJ AL 1 AY (·.Z):=⟨AD.f_Link⟩
instance:KJ AL 2 AY (·.C):=⟨AD.f_To⟩
instance:KJ AL 3 AY (·.X):=⟨AD.f_Delay⟩
instance:KJ Ke 0 AY (·.Au):=⟨Do.f_Crest⟩
instance:KJ Ke 1 BU.bool (·.Ay):=⟨Do.f_Quorum⟩
instance:KJ JC 0 AY (·.Ba):=⟨Dd.f_Level⟩
instance:KJ JC 1 AY (·.Bl):=⟨Tv⟩
instance:KJ JC 2 AY (·.Bp):=⟨QK⟩
instance:KJ GR 0 AY (·.Bm):=⟨W0⟩
instance:KJ GR 1 AY (·.P):=⟨Ci.f_From⟩
instance:KJ Dj 0 AY (·.Ao):=⟨Rs⟩
instance ty_57:QE Tryz.prog 57 12:=⟨by kernel_rfl⟩
instance ty_31:QE Tryz.prog 31 11:=⟨by kernel_rfl⟩
instance ty_36:QE Tryz.prog 36 4:=⟨by kernel_rfl⟩
instance ty_106:QE Tryz.prog 106 16:=⟨by kernel_rfl⟩
instance ty_51:QE Tryz.prog 51 2:=⟨by kernel_rfl⟩
instance ty_171:QE Tryz.prog 171 2:=⟨by kernel_rfl⟩
instance ty_81:QE Tryz.prog 81 4:=⟨by kernel_rfl⟩
instance ty_173:QE Tryz.prog 173 2:=⟨by kernel_rfl⟩
instance ty_102:QE Tryz.prog 102 18:=⟨by kernel_rfl⟩
instance ty_97:QE Tryz.prog 97 5:=⟨by kernel_rfl⟩
instance ty_42:QE Tryz.prog 42 5:=⟨by kernel_rfl⟩
instance ty_93:QE Tryz.prog 93 4:=⟨by kernel_rfl⟩
instance ty_184:QE Tryz.prog 184 4:=⟨by kernel_rfl⟩
instance ty_90:QE Tryz.prog 90 2:=⟨by kernel_rfl⟩
instance ty_181:QE Tryz.prog 181 4:=⟨by kernel_rfl⟩
instance ty_210:QE Tryz.prog 210 2:=⟨by kernel_rfl⟩
instance ty_114:QE Tryz.prog 114 7:=⟨by kernel_rfl⟩
instance ty_158:QE Tryz.prog 158 2:=⟨by kernel_rfl⟩
instance ty_147:QE Tryz.prog 147 5:=⟨by kernel_rfl⟩
instance ty_160:QE Tryz.prog 160 7:=⟨by kernel_rfl⟩
instance ty_164:QE Tryz.prog 164 2:=⟨by kernel_rfl⟩
instance ty_167:QE Tryz.prog 167 3:=⟨by kernel_rfl⟩
instance ty_204:QE Tryz.prog 204 4:=⟨by kernel_rfl⟩
instance ty_119:QE Tryz.prog 119 3:=⟨by kernel_rfl⟩
instance ty_64:QE Tryz.prog 64 2:=⟨by kernel_rfl⟩
instance ty_123:QE Tryz.prog 123 3:=⟨by kernel_rfl⟩
instance ty_145:QE Tryz.prog 145 4:=⟨by kernel_rfl⟩
instance us_9:Fc (Tryz.prog.underlying 9=some .string):=⟨by kernel_rfl⟩
instance:KJ AM 0 AC (·.U):=⟨AH.f_Pos⟩
instance:KJ AM 3 AC (·.R):=⟨AH.f_Open⟩
instance:KJ MZ 0 (BU.sl B8) (·.B):=⟨MN.f_Lo⟩
instance:KJ MZ 1 (BU.sl B8) (·.A):=⟨MN.f_Hi⟩
instance:KJ BI 4 (BU.sl B8) (·.Av):=⟨Ms⟩
instance:KJ BI 5 MZ (·.Ac):=⟨JE⟩
instance:KJ B4 4 (BU.sl B8) (·.Ba):=⟨EU.f_Level⟩
instance:KJ B7 0 BU.str (·.M):=⟨AF.f_Name⟩
instance:KJ B7 1 (BU.sl BU.str) (·.Aq):=⟨Me⟩
instance:KJ B7 3 (BU.sl B4) (·.E):=⟨Ck⟩
instance:KJ B7 4 (BU.sl BI) (·.D):=⟨AF.f_Links⟩
instance:KJ B7 5 (BU.sl Dn) (·.Ad):=⟨GT⟩
instance:KJ B7 6 (BU.sl De) (·.Ab):=⟨H5⟩
instance:KJ B7 7 (BU.sl GQ) (·.Ar):=⟨NH⟩
instance:KJ B7 8 (BU.sl DB) (·.At):=⟨Ls⟩
instance:KJ B7 9 (BU.sl AY) (·.As):=⟨AF.f_Room⟩
instance:KJ BS 2 AC (·.K):=⟨AZ.f_Vol⟩
instance:KJ DL 1 (BU.sl AC) (·.K):=⟨BV.f_Vol⟩
instance:KJ DL 2 (BU.sl BS) (·.N):=⟨BV.f_Queue⟩
instance:KJ DL 3 (BU.sl AM) (·.D):=⟨BV.f_Links⟩
instance:KJ D2 0 (BU.sl AY) (·.Am):=⟨BT.f_Rain⟩
instance:KJ D2 1 (BU.sl JB) (·.Bc):=⟨KW⟩
instance:KJ D2 2 (BU.sl KI) (·.Bb):=⟨MD⟩
instance:KJ D2 3 (BU.sl FX) (·.Ag):=⟨Kw⟩
instance:KJ D2 4 (BU.sl KZ) (·.Bq):=⟨Tg⟩
instance:KJ GR 2 (BU.sl (BU.sl AC)) (·.Am):=⟨Ci.f_Rain⟩
instance:KJ Dj 2 AC (·.Value):=⟨K3⟩
open Go.RowKit Go.Lib
open Go.Proofs.Tryz
set_option maxRecDepth 10000 in
set_option maxHeartbeats 4000000 in
def Qn {N:Nat}{S:Nat→Prop}{L:List HP}{h:AX}{af ag:Value}{s l:List AZ}(hs:St S (OS BS 93 af s::OS BS 93 ag l::L) h) {i:Int}(a0:AA i) {r:List AZ}(E:Jg N s i l=some r):
  CD prog 125 #[af,.int .i64 i,ag] S h (λv S' h'=>St S' (OS BS 93 v r::L) h'):=by
 unfold Jg at E;obtain⟨j,x,rfl,hj,rfl,t,rfl⟩:=Yn E;have U:=Rc t;have ap:=U.le;rcases (hs.pick (.tail .head)).osbx with ⟨_,q⟩|⟨gv,cv,csv,rfl,ah,hv2,ai,p,hs1⟩
 ·cases q
 have ah:1≤cv:=ah;have ai:csv.length=cv*4:=ai;have p:MX S h BS (csv.take 4) [x]:=by have q:=p;simp only[List.length_singleton,Nat.one_mul] at q;exact q
 have aj:mJ S h BS (.slice (some ⟨gv,0,none⟩) 1 cv) [x]:= .inr ⟨⟨gv,0,none⟩,cv,csv.take 4,rfl,by simp [maxLen],p,λq u a=>by
  rw[Nz,Pj (Mu hs1 (.head _)),vO];rw[xZ] at a;split at a
  ·exact a
  ·cases a⟩
 obtain⟨ad,cap,rfl,a5⟩:=hs1.oslen (.tail _ (.head _));have G:room (s.length+[x].length) 32=true:=t;obtain⟨n,hn⟩:∃n,n=s.length:=⟨_,rfl⟩
 rw[←hn] at hs1 hj ap U ⊢;refine A7 (l:=[.slice ad n cap,.int .i64 (j:Int),.slice (some ⟨gv,0,none⟩) 1 cv]) 95 func125 rfl ntmps125 rfl λB=>?_;refine ET ?_;refine Ix (.inl rfl) ?_;refine Nj rfl rfl ?_;refine Jb (sb 0 rfl (sb 1 rfl (sb 2 rfl Ob))) ?_;refine ET ?_;refine Ix (.inl rfl) ?_;refine G2 rfl rfl ?_;refine G2 rfl rfl ?_;refine cC rfl rfl sl_33.1 (by omega) (by omega) rfl λu1=>?_;refine Jb (sb 0 rfl (sb 1 rfl (sb 2 rfl Ob))) ?_;refine ET ?_;refine Ix (.inl rfl) ?_;refine G2 rfl rfl ?_;refine U7 rfl sl_33.1 rfl ?_;refine Nj rfl rfl ?_;refine Jb (sb 7 rfl (sb 0 rfl (sb 1 rfl (sb 2 rfl Ob)))) ?_;refine ET ?_;refine ET ?_;refine Ix (.inl rfl) ?_;refine G2 rfl rfl ?_;refine Wy rfl rfl rfl ?_;refine Jb (sb 16 rfl (sb 7 rfl (sb 0 rfl (sb 1 rfl (sb 2 rfl Ob))))) ?_;refine U2 rfl (λc1=>?_) (λc1=>?_)
 ·exact absurd (xI c1) (by omega)
 refine Kd ?_;refine ET ?_;refine Ix (.inl rfl) ?_;refine G2 rfl rfl ?_;refine U7 rfl sl_33.1 rfl ?_;refine Nj rfl rfl ?_;refine Jb (sb 8 rfl (sb 7 rfl (sb 0 rfl (sb 1 rfl (sb 2 rfl Ob))))) ?_;refine ET ?_;refine ET ?_;refine Ix (.inl rfl) ?_;refine G2 rfl rfl ?_;refine G2 rfl rfl ?_;refine Wy rfl rfl rfl ?_;refine Jb (sb 22 rfl (sb 8 rfl (sb 7 rfl (sb 0 rfl (sb 1 rfl (sb 2 rfl Ob)))))) ?_;refine U2 rfl (λc2=>?_) (λc2=>?_)
 ·have ak:j=n:=by have:=xI c2;omega
  have aq:s.take j++[x]++s.drop j=s++[x]:=by rw[ak,hn,wQ,List.drop_length,vR]
  refine ET ?_;refine Ej ?_;refine G3 2 ?_;refine G2 rfl rfl ?_;refine G2 rfl rfl ?_;refine Dk ?_;refine OL (r:=BS) (l:=s) (xs:=[x]) rfl rfl Nv rfl aj rfl G rfl hs1 (λ_=> .tail .head) λv h' m e2=>?_;refine G3 1 ?_;refine Nj rfl rfl ?_;refine Dk ?_;refine HA (sb 6 rfl Ob) ?_;refine WF.ret (λaa ww J F=>?_);exact IS J rfl F (GB (KG J (v:=_) rfl) ID) rfl e2 (by rw[aq];exact m.drop .head)
 have ak:j<n:=by have:=yA c2;omega
 rcases (hs1.pick (.tail .head)).osbx with ⟨q1,q2⟩|⟨g,cap',cs,q1,b1,b2,b3,b4,m⟩
 ·exact absurd (show n=0 by rw[hn,q2];rfl) (by omega)
 injection q1 with q1 q2 q3
 subst q1;subst q3;unfold maxLen at b2;have b3:cs.length=cap*4:=b3;have b4:MX S h BS (cs.take (n*4)) s:=by rw[hn];exact b4
 obtain⟨ar,hg,a6⟩:=m.bxne;have V:=Mu m (.head _);have au:=Mu m (.tail _ (.head _));obtain⟨M,hM⟩:∃M,M=(cs.drop (j*4)).take ((n-j)*4):=⟨_,rfl⟩
 have b:M.length=(n-j)*4:=by rw[hM];simp;omega
 have av:M=(cs.take (n*4)).drop (j*4):=by rw[hM,List.drop_take];congr 1;omega
 have W:MX S h BS M (s.drop j):=by rw[av];exact b4.drop j
 have al:∀u∈M,u.oneCell'=true:=λu hu=>W.one u hu;have K:∀(H:AX),H[g]? =some (.cells cs.toArray 93 (0,0))→∀q u,M[q]? =some u→JT H ((⟨g,0+j*4,none⟩:Addr).add q)=some u:=λH X q u a=>by
  rw[Nz,Pj X];rw[hM,xZ] at a;split at a
  ·rw[wX] at a;rwa [vO]
  ·cases a
 have aw:=K h V;have c:(csv.take 4).length=4:=by rw[vV];omega
 have am:∀u∈csv.take 4,u.oneCell'=true:=λu hu=>p.one u (by simpa using hu);have an:∀(H:AX),H[gv]? =some (.cells csv.toArray 93 (0,0))→∀q u,(csv.take 4)[q]? =some u→JT H ((⟨gv,0,none⟩:Addr).add q)=some u:=λH X q u a=>by
  rw[Nz,Pj X,vO];rw[xZ] at a;split at a
  ·exact a
  ·cases a
 have d:(s.take j++[x]++s.drop j).length=n+1:=by simp;omega
 refine Kd ?_;refine ET ?_;refine ET ?_;refine Ix (.inl rfl) ?_;refine G2 rfl rfl ?_;refine G2 rfl rfl ?_;refine Pv (z:=(((n+1):Nat):Int)) rfl rfl rfl (YN (by omega)) ?_;refine G2 rfl rfl ?_;refine fA rfl sl_33.1 rfl ?_;refine Ww rfl rfl rfl ?_;refine Jb (sb 31 rfl (sb 8 rfl (sb 7 rfl (sb 0 rfl (sb 1 rfl (sb 2 rfl Ob)))))) ?_;refine U2 rfl (λc3=>?_) (λc3=>?_)
 ·have Q:cap<n+1:=by have:=xI c3;omega
  have ax:∀q u,(cs.take (j*4))[q]? =some u→JT h ⟨g,0+q,none⟩=some u:=λq u a=>by
   rw[Pj V,vO];rw[xZ] at a;split at a
   ·exact a
   ·cases a
  refine ET ?_;refine Ej ?_;refine G3 8 ?_;refine G2 rfl rfl ?_;refine G2 rfl rfl ?_;refine Wt (j:=j) rfl rfl rfl sl_33.1 (by omega) rfl ?_;refine G2 rfl rfl ?_;refine G2 rfl rfl ?_;refine Pv (z:=(((n+1):Nat):Int)) rfl rfl rfl (YN (by omega)) ?_;refine G2 rfl rfl ?_;refine eP (z:=((((n+1)-j):Nat):Int)) rfl rfl rfl (sQ (by omega)) ?_;refine Dk ?_;refine nG (j:=((n+1)-j)) (olds:=cs.take (j*4)) rfl rfl rfl Nv sR (by simp;omega) (λq u a=>ax q u a) (by omega) (by omega) (by rw[show j+(n+1-j)=n+1 by omega];exact U) (by omega) rfl m λc' cs' h' a1 a2 a3 a4 y I Y=>?_;have Z:M.length=Nat.min (n-j) ((j+(n+1-j))-(j+1))*4:=by rw[b];congr 1;simp only[Nat.min_def];split<;>omega
  have ab:(csv.take 4).length=Nat.min 1 ((j+(n+1-j))-j)*4:=by rw[c];simp only[Nat.min_def];split<;>omega
  have ac:∀o,St S (Bx h.size 93 (IA (IA cs' (0+j*4) (csv.take 4)) (0+(j+1)*4) M)::Bx g 93 cs::Bx gv 93 csv::L) o→Cc S h S o→St S (OS BS 93 (.slice (some ⟨h.size,0,none⟩) (j+(n+1-j)) c') (s.take j++[x]++s.drop j)::L) o:=λo k e=>by
   have D:=(k.drop (.tail .head)).drop (.tail .head);have q:=D.bxosc (r:=BS) (cap:=c') (l:=s.take j++[x]++s.drop j) (by rw[d];omega) a2 (by show _=c'*4;rw[MG (by rw[b,MG (by rw[c];omega)];omega),MG (by rw[c];omega)];exact a3) (by
    have e1:=Wl (cs:=cs') (M:=M) (nv:=csv.take 4) (A:=j*4) (B:=4) (C:=(n-j)*4) b c (by omega);have e2:(s.take j++[x]++s.drop j).length*4=j*4+4+(n-j)*4:=by rw[d];omega
    show MX S o _ (List.take (_*4) _) _
    rw[e2,vO,vO,show(j+1)*4=j*4+4 by omega,e1,a4];have b5:=b4.take j;have I:(cs.take (n*4)).take (j*BS.sz)=cs.take (j*4):=by show(cs.take (n*4)).take (j*4)=_;rw[yJ];congr 1;omega
    rw[I] at b5;exact((b5.append (by simpa using p)).append W).mono e.sub e.same)
   rw[d] at q;rw[show j+(n+1-j)=n+1 by omega];exact q
  refine G3 1 ?_;refine Nj rfl rfl ?_;refine Dk ?_;refine HA (sb 9 rfl (sb 7 rfl (sb 0 rfl (sb 1 rfl (sb 2 rfl Ob))))) ?_;refine ET ?_;refine Ej ?_;refine G3 4 ?_;refine G2 rfl rfl ?_;refine G2 rfl rfl ?_;refine Qf (j:=j) rfl rfl rfl sl_33.1 (by omega) (by omega) rfl ?_;refine G2 rfl rfl ?_;refine Dk ?_;refine VD (cs':=_) rfl rfl sl_33.1 (news:=csv.take 4) ab (λq u a=>an h' (Mu y (.tail _ (.tail _ (.head _)))) q u a) (by rw[c];omega) am rfl rfl y .head λo k e4 ae=>?_;refine HA (sb 9 rfl (sb 7 rfl (sb 0 rfl (sb 1 rfl Ob)))) ?_;refine ET ?_;refine Pa 8 mo (by kernel_rfl) rfl ?_;refine G2 rfl rfl ?_;refine G2 rfl rfl ?_;refine G2 rfl rfl ?_;refine Pv (z:=(((j+1):Nat):Int)) rfl rfl rfl (YN (by omega)) ?_;refine Qf (j:=(j+1)) rfl rfl rfl sl_33.1 (by omega) (by omega) rfl ?_;refine G2 rfl rfl ?_;refine G2 rfl rfl ?_;refine Qf (j:=j) rfl rfl rfl sl_33.1 (by omega) (by omega) rfl ?_;refine Dk ?_;refine VD (cs':=_) rfl rfl sl_33.1 (news:=M) Z (λq u a=>K o (Mu k (.tail _ (.head _))) q u a) (by rw[b,MG (by rw[c];omega)];omega) al rfl rfl k .head λh5 D e5 ay=>?_;refine HA (sb 9 rfl Ob) ?_;refine ET ?_;refine Ix (.inl rfl) ?_;refine G2 rfl rfl ?_;refine Nj rfl rfl ?_;refine Jb (sb 6 rfl Ob) ?_;refine WF.ret (λaa ww J F=>?_);exact IS J rfl F (GB (KG J (v:=_) rfl) ID) rfl (I.trans (e4.trans e5)) (ac h5 D (I.trans (e4.trans e5)))
 have Q:n+1≤cap:=by have:=yA c3;omega
 have Z:M.length=Nat.min (n+1-j) (n+1-(j+1))*4:=by rw[b];congr 1;simp only[Nat.min_def];split<;>omega
 have ab:(csv.take 4).length=Nat.min 1 (n+1-j)*4:=by rw[c];simp only[Nat.min_def];split<;>omega
 have az:∀w,Wd B h w→(callFunc 155 #[.slice (some ⟨gv,0,none⟩) 1 cv,.slice (some ⟨g,0+(j+1)*4,none⟩) (n+1-(j+1)) (cap-(j+1))]).run prog w= .ok (.value (.bool false)) w:=λw F=>by
  have w1:w.heap[g]? =some (.cells cs.toArray 93 (0,0)):=by rw[F.heap];exact V
  have w2:w.heap[gv]? =some (.cells csv.toArray 93 (0,0)):=by rw[F.heap];exact au
  rw[run_callFunc_extern func155 (by kernel_rfl) (by kernel_rfl) (by kernel_rfl) (e:=Extern.SlicesOverlaps.overlaps #[33,33] #[4]) (by kernel_rfl),
   Lib.run_overlaps_apart w 33 4 93 underlying33 4 (λw=>(No sl_33.1).2 w) ⟨gv,0,none⟩ ⟨g,0+(j+1)*4,none⟩ 1 cv _ _ (λe=>ar e.symm) 93 93 csv.length cs.length (by simp [World.shape?,w2]) (by simp [World.shape?,w1]) (by omega) (by simp [World.frozen?,w2]) (by simp [World.frozen?,w2])]
  rfl
 have ao:∀o,St S (Bx g 93 (IA (IA cs (0+(j+1)*4) M) (0+j*4) (csv.take 4))::Bx gv 93 csv::L) o→Cc S h S o→St S (OS BS 93 (.slice (some ⟨g,0,none⟩) (n+1) cap) (s.take j++[x]++s.drop j)::L) o:=λo k e=>by
  have D:=k.drop (.tail .head);have q:=D.bxosc (r:=BS) (cap:=cap) (l:=s.take j++[x]++s.drop j) (by rw[d];exact Q) (by unfold maxLen;omega) (by show _=cap*4;rw[MG (by rw[c,MG (by rw[b];omega)];omega),MG (by rw[b];omega)];exact b3) (by
   have e1:=V7 (cs:=cs) (M:=M) (nv:=csv.take 4) (A:=j*4) (B:=4) (C:=(n-j)*4) b c (by omega);have e2:(s.take j++[x]++s.drop j).length*4=j*4+4+(n-j)*4:=by rw[d];omega
   show MX S o _ (List.take (_*4) _) _
   rw[e2,vO,vO,show(j+1)*4=j*4+4 by omega,e1];have b5:=b4.take j;have I:(cs.take (n*4)).take (j*BS.sz)=cs.take (j*4):=by show(cs.take (n*4)).take (j*4)=_;rw[yJ];congr 1;omega
   rw[I] at b5;exact((b5.append (by simpa using p)).append W).mono e.sub e.same)
  rw[d] at q;exact q
 refine Kd ?_;refine ET ?_;refine Ix (.inl rfl) ?_;refine G2 rfl rfl ?_;refine G2 rfl rfl ?_;refine G2 rfl rfl ?_;refine Pv (z:=(((n+1):Nat):Int)) rfl rfl rfl (YN (by omega)) ?_;refine Wt (j:=(n+1)) rfl rfl rfl sl_33.1 (by omega) rfl ?_;refine Nj rfl rfl ?_;refine Jb (sb 0 rfl (sb 8 rfl (sb 7 rfl (sb 1 rfl (sb 2 rfl Ob))))) ?_;refine ET ?_;refine ET ?_;refine Ix (.inl rfl) ?_;refine G2 rfl rfl ?_;refine G2 rfl rfl ?_;refine G2 rfl rfl ?_;refine G2 rfl rfl ?_;refine Pv (z:=(((j+1):Nat):Int)) rfl rfl rfl (YN (by omega)) ?_;refine Qf (j:=(j+1)) rfl rfl rfl sl_33.1 (by omega) (by omega) rfl ?_;refine eY rfl rfl rfl (λw F=>az w F) ?_;refine Wv rfl rfl ?_;refine Jb (sb 68 rfl (sb 0 rfl (sb 8 rfl (sb 7 rfl (sb 1 rfl (sb 2 rfl Ob)))))) ?_;refine Qe rfl ?_;refine ET ?_;refine Pa 8 mo (by kernel_rfl) rfl ?_;refine G2 rfl rfl ?_;refine G2 rfl rfl ?_;refine G2 rfl rfl ?_;refine Pv (z:=(((j+1):Nat):Int)) rfl rfl rfl (YN (by omega)) ?_;refine Qf (j:=(j+1)) rfl rfl rfl sl_33.1 (by omega) (by omega) rfl ?_;refine G2 rfl rfl ?_;refine G2 rfl rfl ?_;refine Qf (j:=j) rfl rfl rfl sl_33.1 (by omega) (by omega) rfl ?_;refine Dk ?_;refine VD (cs':=_) rfl rfl sl_33.1 (news:=M) Z aw (by rw[b];omega) al rfl rfl m .head λH y I Y=>?_;refine HA (sb 0 rfl (sb 1 rfl (sb 2 rfl Ob))) ?_;refine ET ?_;refine Ej ?_;refine G3 4 ?_;refine G2 rfl rfl ?_;refine G2 rfl rfl ?_;refine Qf (j:=j) rfl rfl rfl sl_33.1 (by omega) (by omega) rfl ?_;refine G2 rfl rfl ?_;refine Dk ?_;refine VD (cs':=_) rfl rfl sl_33.1 (news:=csv.take 4) ab (λq u a=>an H (Mu y (.tail _ (.head _))) q u a) (by rw[c,MG (by rw[b];omega)];omega) am rfl rfl y .head λo k e4 ae=>?_;refine HA (sb 0 rfl Ob) ?_;refine ET ?_;refine Ix (.inl rfl) ?_;refine G2 rfl rfl ?_;refine Nj rfl rfl ?_;refine Jb (sb 6 rfl Ob) ?_;refine WF.ret (λaa ww J F=>?_);exact IS J rfl F (GB (KG J (v:=_) rfl) ID) rfl (I.trans e4) (ao o k (I.trans e4))
end Go.Proofs.YtibidnaedddfdaaGreat
