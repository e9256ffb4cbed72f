import Derived.Test.YtibidnaedddfdaaGreatTFacts
import Derived.Test.YtibidnaedddfdaaGreatTCore42
import Derived.Test.YtibidnaedddfdaaGreatTForms
namespace Go.Proofs.YtibidnaedddfdaaGreat
set_option linter.all false
instance fa_36_1:Hq Tryz.prog 36 1 1:=⟨by kernel_rfl⟩
instance fa_36_3:Hq Tryz.prog 36 3 3:=⟨by kernel_rfl⟩
instance fa_31_3:Hq Tryz.prog 31 3 3:=⟨by kernel_rfl⟩
instance fa_42_1:Hq Tryz.prog 42 1 1:=⟨by kernel_rfl⟩
instance fa_171_1:Hq Tryz.prog 171 1 1:=⟨by kernel_rfl⟩
instance fa_106_0:Hq Tryz.prog 106 0 0:=⟨by kernel_rfl⟩
instance fa_31_4:Hq Tryz.prog 31 4 4:=⟨by kernel_rfl⟩
instance fa_102_1:Hq Tryz.prog 102 1 1:=⟨by kernel_rfl⟩
instance fa_171_0:Hq Tryz.prog 171 0 0:=⟨by kernel_rfl⟩
instance fa_106_1:Hq Tryz.prog 106 1 11:=⟨by kernel_rfl⟩
instance fa_97_2:Hq Tryz.prog 97 2 3:=⟨by kernel_rfl⟩
instance fa_42_2:Hq Tryz.prog 42 2 2:=⟨by kernel_rfl⟩
instance fa_102_6:Hq Tryz.prog 102 6 7:=⟨by kernel_rfl⟩
instance fa_81_1:Hq Tryz.prog 81 1 1:=⟨by kernel_rfl⟩
instance fa_173_0:Hq Tryz.prog 173 0 0:=⟨by kernel_rfl⟩
instance fa_97_1:Hq Tryz.prog 97 1 2:=⟨by kernel_rfl⟩
instance fa_173_1:Hq Tryz.prog 173 1 1:=⟨by kernel_rfl⟩
instance fa_81_2:Hq Tryz.prog 81 2 2:=⟨by kernel_rfl⟩
instance fa_81_0:Hq Tryz.prog 81 0 0:=⟨by kernel_rfl⟩
instance fa_102_7:Hq Tryz.prog 102 7 8:=⟨by kernel_rfl⟩
instance fa_97_0:Hq Tryz.prog 97 0 0:=⟨by kernel_rfl⟩
instance fa_51_0:Hq Tryz.prog 51 0 0:=⟨by kernel_rfl⟩
instance fa_51_1:Hq Tryz.prog 51 1 1:=⟨by kernel_rfl⟩
instance fa_106_2:Hq Tryz.prog 106 2 15:=⟨by kernel_rfl⟩
instance fa_36_2:Hq Tryz.prog 36 2 2:=⟨by kernel_rfl⟩
instance fa_93_0:Hq Tryz.prog 93 0 0:=⟨by kernel_rfl⟩
instance fa_36_0:Hq Tryz.prog 36 0 0:=⟨by kernel_rfl⟩
instance fa_93_1:Hq Tryz.prog 93 1 1:=⟨by kernel_rfl⟩
instance fa_93_2:Hq Tryz.prog 93 2 2:=⟨by kernel_rfl⟩
instance fa_102_13:Hq Tryz.prog 102 13 14:=⟨by kernel_rfl⟩
instance fa_102_12:Hq Tryz.prog 102 12 13:=⟨by kernel_rfl⟩
instance fa_81_3:Hq Tryz.prog 81 3 3:=⟨by kernel_rfl⟩
instance fa_102_2:Hq Tryz.prog 102 2 2:=⟨by kernel_rfl⟩
instance fa_184_2:Hq Tryz.prog 184 2 2:=⟨by kernel_rfl⟩
instance fa_184_0:Hq Tryz.prog 184 0 0:=⟨by kernel_rfl⟩
instance fa_184_1:Hq Tryz.prog 184 1 1:=⟨by kernel_rfl⟩
instance fa_31_1:Hq Tryz.prog 31 1 1:=⟨by kernel_rfl⟩
instance fa_184_3:Hq Tryz.prog 184 3 3:=⟨by kernel_rfl⟩
instance fa_57_2:Hq Tryz.prog 57 2 2:=⟨by kernel_rfl⟩
instance fa_102_3:Hq Tryz.prog 102 3 3:=⟨by kernel_rfl⟩
instance fa_102_14:Hq Tryz.prog 102 14 15:=⟨by kernel_rfl⟩
instance fa_102_15:Hq Tryz.prog 102 15 16:=⟨by kernel_rfl⟩
instance fa_90_0:Hq Tryz.prog 90 0 0:=⟨by kernel_rfl⟩
instance fa_90_1:Hq Tryz.prog 90 1 1:=⟨by kernel_rfl⟩
instance fa_102_8:Hq Tryz.prog 102 8 9:=⟨by kernel_rfl⟩
instance fa_102_10:Hq Tryz.prog 102 10 11:=⟨by kernel_rfl⟩
instance fa_102_11:Hq Tryz.prog 102 11 12:=⟨by kernel_rfl⟩
instance fa_102_9:Hq Tryz.prog 102 9 10:=⟨by kernel_rfl⟩
instance fa_102_5:Hq Tryz.prog 102 5 5:=⟨by kernel_rfl⟩
instance fa_100_0:Hq Tryz.prog 100 0 0:=⟨by kernel_rfl⟩
instance fa_100_1:Hq Tryz.prog 100 1 1:=⟨by kernel_rfl⟩
instance fa_102_16:Hq Tryz.prog 102 16 17:=⟨by kernel_rfl⟩
instance fa_57_7:Hq Tryz.prog 57 7 7:=⟨by kernel_rfl⟩
instance fa_57_6:Hq Tryz.prog 57 6 6:=⟨by kernel_rfl⟩
instance fa_57_8:Hq Tryz.prog 57 8 8:=⟨by kernel_rfl⟩
instance fa_57_9:Hq Tryz.prog 57 9 9:=⟨by kernel_rfl⟩
instance fa_181_3:Hq Tryz.prog 181 3 3:=⟨by kernel_rfl⟩
instance fa_181_0:Hq Tryz.prog 181 0 0:=⟨by kernel_rfl⟩
instance fa_181_1:Hq Tryz.prog 181 1 1:=⟨by kernel_rfl⟩
instance fa_181_2:Hq Tryz.prog 181 2 2:=⟨by kernel_rfl⟩
instance fa_57_3:Hq Tryz.prog 57 3 3:=⟨by kernel_rfl⟩
instance fa_42_3:Hq Tryz.prog 42 3 3:=⟨by kernel_rfl⟩
instance fa_71_1:Hq Tryz.prog 71 1 1:=⟨by kernel_rfl⟩
instance fa_57_5:Hq Tryz.prog 57 5 5:=⟨by kernel_rfl⟩
instance fa_71_0:Hq Tryz.prog 71 0 0:=⟨by kernel_rfl⟩
instance fa_71_4:Hq Tryz.prog 71 4 4:=⟨by kernel_rfl⟩
instance fa_71_3:Hq Tryz.prog 71 3 3:=⟨by kernel_rfl⟩
instance fa_83_0:Hq Tryz.prog 83 0 0:=⟨by kernel_rfl⟩
instance fa_83_1:Hq Tryz.prog 83 1 1:=⟨by kernel_rfl⟩
instance fa_83_2:Hq Tryz.prog 83 2 2:=⟨by kernel_rfl⟩
instance fa_42_0:Hq Tryz.prog 42 0 0:=⟨by kernel_rfl⟩
instance fa_42_4:Hq Tryz.prog 42 4 4:=⟨by kernel_rfl⟩
instance fa_31_0:Hq Tryz.prog 31 0 0:=⟨by kernel_rfl⟩
instance fa_31_2:Hq Tryz.prog 31 2 2:=⟨by kernel_rfl⟩
instance fa_31_5:Hq Tryz.prog 31 5 5:=⟨by kernel_rfl⟩
instance fa_31_6:Hq Tryz.prog 31 6 6:=⟨by kernel_rfl⟩
instance fa_31_7:Hq Tryz.prog 31 7 7:=⟨by kernel_rfl⟩
instance fa_31_8:Hq Tryz.prog 31 8 8:=⟨by kernel_rfl⟩
instance fa_31_9:Hq Tryz.prog 31 9 9:=⟨by kernel_rfl⟩
instance fa_31_10:Hq Tryz.prog 31 10 10:=⟨by kernel_rfl⟩
instance fa_57_0:Hq Tryz.prog 57 0 0:=⟨by kernel_rfl⟩
instance fa_102_0:Hq Tryz.prog 102 0 0:=⟨by kernel_rfl⟩
instance fa_114_0:Hq Tryz.prog 114 0 0:=⟨by kernel_rfl⟩
instance fa_158_0:Hq Tryz.prog 158 0 0:=⟨by kernel_rfl⟩
instance fa_147_0:Hq Tryz.prog 147 0 0:=⟨by kernel_rfl⟩
instance fa_160_0:Hq Tryz.prog 160 0 0:=⟨by kernel_rfl⟩
instance fa_57_1:Hq Tryz.prog 57 1 1:=⟨by kernel_rfl⟩
instance fa_57_10:Hq Tryz.prog 57 10 10:=⟨by kernel_rfl⟩
instance fa_57_4:Hq Tryz.prog 57 4 4:=⟨by kernel_rfl⟩
instance fa_57_11:Hq Tryz.prog 57 11 11:=⟨by kernel_rfl⟩
instance fa_164_0:Hq Tryz.prog 164 0 0:=⟨by kernel_rfl⟩
instance fa_164_1:Hq Tryz.prog 164 1 1:=⟨by kernel_rfl⟩
instance fa_102_4:Hq Tryz.prog 102 4 4:=⟨by kernel_rfl⟩
instance fa_114_1:Hq Tryz.prog 114 1 1:=⟨by kernel_rfl⟩
instance fa_114_2:Hq Tryz.prog 114 2 2:=⟨by kernel_rfl⟩
instance fa_114_3:Hq Tryz.prog 114 3 3:=⟨by kernel_rfl⟩
instance fa_114_4:Hq Tryz.prog 114 4 4:=⟨by kernel_rfl⟩
instance fa_114_5:Hq Tryz.prog 114 5 5:=⟨by kernel_rfl⟩
instance fa_114_6:Hq Tryz.prog 114 6 6:=⟨by kernel_rfl⟩
instance fa_158_1:Hq Tryz.prog 158 1 1:=⟨by kernel_rfl⟩
instance fa_147_1:Hq Tryz.prog 147 1 1:=⟨by kernel_rfl⟩
instance fa_147_3:Hq Tryz.prog 147 3 3:=⟨by kernel_rfl⟩
instance fa_147_4:Hq Tryz.prog 147 4 4:=⟨by kernel_rfl⟩
instance fa_147_2:Hq Tryz.prog 147 2 2:=⟨by kernel_rfl⟩
instance fa_160_1:Hq Tryz.prog 160 1 1:=⟨by kernel_rfl⟩
instance fa_160_2:Hq Tryz.prog 160 2 2:=⟨by kernel_rfl⟩
instance fa_160_3:Hq Tryz.prog 160 3 3:=⟨by kernel_rfl⟩
instance fa_160_4:Hq Tryz.prog 160 4 4:=⟨by kernel_rfl⟩
instance fa_160_6:Hq Tryz.prog 160 6 6:=⟨by kernel_rfl⟩
instance fa_160_5:Hq Tryz.prog 160 5 5:=⟨by kernel_rfl⟩
instance fa_71_2:Hq Tryz.prog 71 2 2:=⟨by kernel_rfl⟩
instance fa_71_5:Hq Tryz.prog 71 5 5:=⟨by kernel_rfl⟩
instance fa_71_6:Hq Tryz.prog 71 6 6:=⟨by kernel_rfl⟩
instance fa_141_1:Hq Tryz.prog 141 1 11:=⟨by kernel_rfl⟩
instance fa_141_0:Hq Tryz.prog 141 0 0:=⟨by kernel_rfl⟩
instance fa_141_2:Hq Tryz.prog 141 2 15:=⟨by kernel_rfl⟩
instance fa_204_0:Hq Tryz.prog 204 0 0:=⟨by kernel_rfl⟩
instance fa_204_1:Hq Tryz.prog 204 1 1:=⟨by kernel_rfl⟩
instance fa_204_2:Hq Tryz.prog 204 2 2:=⟨by kernel_rfl⟩
instance fa_204_3:Hq Tryz.prog 204 3 3:=⟨by kernel_rfl⟩
instance ty_32:Fc (L5 Tryz.prog 32 1 false=true):=⟨by kernel_rfl⟩
instance ty_34:Fc (L5 Tryz.prog 34 1 false=true):=⟨by kernel_rfl⟩
instance ty_23:Fc (L5 Tryz.prog 23 1 false=true):=⟨by kernel_rfl⟩
instance ty_37:Fc (L5 Tryz.prog 37 1 false=true):=⟨by kernel_rfl⟩
instance ty_3:Fc (L5 Tryz.prog 3 1 false=true):=⟨by kernel_rfl⟩
instance ty_24:Fc (L5 Tryz.prog 24 1 false=true):=⟨by kernel_rfl⟩
instance ty_38:Fc (L5 Tryz.prog 38 1 false=true):=⟨by kernel_rfl⟩
instance ty_4:Fc (L5 Tryz.prog 4 1 false=true):=⟨by kernel_rfl⟩
instance ty_33:Fc (L5 Tryz.prog 33 1 false=true):=⟨by kernel_rfl⟩
instance ty_22:Fc (L5 Tryz.prog 22 1 false=true):=⟨by kernel_rfl⟩
instance ty_54:Fc (L5 Tryz.prog 54 1 false=true):=⟨by kernel_rfl⟩
instance ty_133:Fc (L5 Tryz.prog 133 1 false=true):=⟨by kernel_rfl⟩
instance ty_39:Fc (L5 Tryz.prog 39 1 false=true):=⟨by kernel_rfl⟩
instance ty_67:Fc (L5 Tryz.prog 67 1 false=true):=⟨by kernel_rfl⟩
instance ty_29:Fc (L5 Tryz.prog 29 1 false=true):=⟨by kernel_rfl⟩
instance ty_69:Fc (L5 Tryz.prog 69 1 false=true):=⟨by kernel_rfl⟩
instance ty_68:Fc (L5 Tryz.prog 68 1 false=true):=⟨by kernel_rfl⟩
instance ty_40:Fc (L5 Tryz.prog 40 1 false=true):=⟨by kernel_rfl⟩
instance ty_9:Fc (L5 Tryz.prog 9 1 false=true):=⟨by kernel_rfl⟩
instance ty_25:Fc (L5 Tryz.prog 25 1 false=true):=⟨by kernel_rfl⟩
instance ty_26:Fc (L5 Tryz.prog 26 1 false=true):=⟨by kernel_rfl⟩
instance ty_27:Fc (L5 Tryz.prog 27 1 false=true):=⟨by kernel_rfl⟩
instance ty_28:Fc (L5 Tryz.prog 28 1 false=true):=⟨by kernel_rfl⟩
instance ty_154:Fc (L5 Tryz.prog 154 1 false=true):=⟨by kernel_rfl⟩
instance ty_55:Fc (L5 Tryz.prog 55 1 false=true):=⟨by kernel_rfl⟩
instance sl_23:TC Tryz.prog 23 57 12:=⟨by kernel_rfl⟩
instance sl_37:TC Tryz.prog 37 171 2:=⟨by kernel_rfl⟩
instance sl_24:TC Tryz.prog 24 102 18:=⟨by kernel_rfl⟩
instance sl_34:TC Tryz.prog 34 97 5:=⟨by kernel_rfl⟩
instance sl_38:TC Tryz.prog 38 173 2:=⟨by kernel_rfl⟩
instance sl_43:TC Tryz.prog 43 4 1:=⟨by kernel_rfl⟩
instance sl_32:TC Tryz.prog 32 51 2:=⟨by kernel_rfl⟩
instance sl_33:TC Tryz.prog 33 93 4:=⟨by kernel_rfl⟩
instance sl_39:TC Tryz.prog 39 184 4:=⟨by kernel_rfl⟩
instance sl_22:TC Tryz.prog 22 9 1:=⟨by kernel_rfl⟩
instance sl_54:TC Tryz.prog 54 90 2:=⟨by kernel_rfl⟩
instance sl_110:TC Tryz.prog 110 181 4:=⟨by kernel_rfl⟩
instance sl_29:TC Tryz.prog 29 3 1:=⟨by kernel_rfl⟩
instance sl_67:TC Tryz.prog 67 29 1:=⟨by kernel_rfl⟩
instance sl_69:TC Tryz.prog 69 81 4:=⟨by kernel_rfl⟩
instance sl_68:TC Tryz.prog 68 83 3:=⟨by kernel_rfl⟩
instance sl_40:TC Tryz.prog 40 260 4:=⟨by kernel_rfl⟩
instance sl_25:TC Tryz.prog 25 114 7:=⟨by kernel_rfl⟩
instance sl_26:TC Tryz.prog 26 147 5:=⟨by kernel_rfl⟩
instance sl_27:TC Tryz.prog 27 160 7:=⟨by kernel_rfl⟩
instance sl_28:TC Tryz.prog 28 158 2:=⟨by kernel_rfl⟩
instance sl_55:TC Tryz.prog 55 164 2:=⟨by kernel_rfl⟩
instance sl_217:TC Tryz.prog 217 54 1:=⟨by kernel_rfl⟩
instance sl_199:TC Tryz.prog 199 204 4:=⟨by kernel_rfl⟩
instance:LB AC 0 AW (·.B):=⟨AB.f_Lo⟩
instance:LB AC 1 AW (·.A):=⟨AB.f_Hi⟩
instance:LB AJ 2 AW (·.S):=⟨AF.f_Target⟩
instance:LB CJ 0 AW (·.M):=⟨UP⟩
instance:LB CJ 1 AW (·.Q):=⟨Nq⟩
instance:LB BL 1 AW (·.I):=⟨AS.f_Kind⟩
instance:LB BL 3 AW (·.C):=⟨AS.f_To⟩
instance:LB BL 7 AW (·.X):=⟨Co⟩
instance:LB BL 8 AW (·.Am):=⟨HI⟩
instance:LB BL 9 AW (·.Aw):=⟨NR⟩
instance:LB BL 10 AW (·.Ax):=⟨AS.f_Crest⟩
instance:LB BL 11 AW (·.W):=⟨AS.f_Num⟩
instance:LB BL 12 AW (·.R):=⟨AS.f_Den⟩
instance:LB BL 13 AW (·.Ae):=⟨Lo⟩
instance:LB BL 14 AW (·.Ab):=⟨KO⟩
instance:LB BL 15 AW (·.Aj):=⟨JA⟩
instance:LB BL 16 AW (·.Ag):=⟨JB⟩
instance:LB FU 0 AW (·.P):=⟨Cs.f_Pos⟩
instance:LB FU 3 BX.bool (·.N):=⟨Cs.f_Open⟩
instance:LB B3 2 AW (·.Av):=⟨PU⟩
instance:LB B3 6 AW (·.W):=⟨EW.f_Num⟩
instance:LB B3 7 AW (·.R):=⟨EW.f_Den⟩
instance:LB B5 2 AW (·.T):=⟨Ns⟩
instance:LB B5 10 AW (·.U):=⟨AH.f_Err⟩
instance:LB BU 0 AW (·.K):=⟨AY.f_At⟩
instance:LB BU 1 AW (·.C):=⟨AY.f_To⟩
instance:LB DD 0 AW (·.H):=⟨AX.f_Hour⟩
instance:LB KF 0 AW (·.I):=⟨Le.f_Kind⟩
instance:LB KF 1 AW (·.Aa):=⟨Le.f_Link⟩
instance:LB K8 0 AW (·.Aa):=⟨QZ.f_Link⟩
instance:LB K8 1 AW (·.S):=⟨QZ.f_Target⟩
instance:LB F3 0 AW (·.Ay):=⟨Jb.f_Place⟩
instance:LB F3 1 AW (·.Bh):=⟨RJ⟩
instance:LB F3 2 AW (·.Al):=⟨Jb.f_Litres⟩
instance:LB F3 3 AW (·.C):=⟨Jb.f_To⟩
instance:LB Gq 0 AW (·.K):=⟨Hp.f_At⟩
instance:LB Gq 1 AW (·.C):=⟨Hp.f_To⟩
instance:LB DX 0 AW (·.H):=⟨BQ.f_Hour⟩
instance:LB AM 0 AW (·.Bf):=⟨Ll⟩
instance:LB AM 1 AW (·.Aa):=⟨AD.f_Link⟩
instance:LB AM 2 AW (·.C):=⟨AD.f_To⟩
instance:LB AM 3 AW (·.Y):=⟨AD.f_Delay⟩
instance ty_57:Rh Tryz.prog 57 12:=⟨by kernel_rfl⟩
instance ty_31:Rh Tryz.prog 31 11:=⟨by kernel_rfl⟩
instance ty_36:Rh Tryz.prog 36 4:=⟨by kernel_rfl⟩
instance ty_106:Rh Tryz.prog 106 16:=⟨by kernel_rfl⟩
instance ty_51:Rh Tryz.prog 51 2:=⟨by kernel_rfl⟩
instance ty_171:Rh Tryz.prog 171 2:=⟨by kernel_rfl⟩
instance ty_81:Rh Tryz.prog 81 4:=⟨by kernel_rfl⟩
instance ty_173:Rh Tryz.prog 173 2:=⟨by kernel_rfl⟩
instance ty_102:Rh Tryz.prog 102 18:=⟨by kernel_rfl⟩
instance ty_97:Rh Tryz.prog 97 5:=⟨by kernel_rfl⟩
instance ty_42:Rh Tryz.prog 42 5:=⟨by kernel_rfl⟩
instance ty_93:Rh Tryz.prog 93 4:=⟨by kernel_rfl⟩
instance ty_184:Rh Tryz.prog 184 4:=⟨by kernel_rfl⟩
instance ty_90:Rh Tryz.prog 90 2:=⟨by kernel_rfl⟩
instance ty_181:Rh Tryz.prog 181 4:=⟨by kernel_rfl⟩
instance ty_71:Rh Tryz.prog 71 7:=⟨by kernel_rfl⟩
instance ty_83:Rh Tryz.prog 83 3:=⟨by kernel_rfl⟩
instance ty_197:Rh Tryz.prog 197 2:=⟨by kernel_rfl⟩
instance ty_210:Rh Tryz.prog 210 2:=⟨by kernel_rfl⟩
instance ty_114:Rh Tryz.prog 114 7:=⟨by kernel_rfl⟩
instance ty_158:Rh Tryz.prog 158 2:=⟨by kernel_rfl⟩
instance ty_147:Rh Tryz.prog 147 5:=⟨by kernel_rfl⟩
instance ty_160:Rh Tryz.prog 160 7:=⟨by kernel_rfl⟩
instance ty_164:Rh Tryz.prog 164 2:=⟨by kernel_rfl⟩
instance ty_167:Rh Tryz.prog 167 3:=⟨by kernel_rfl⟩
instance ty_204:Rh Tryz.prog 204 4:=⟨by kernel_rfl⟩
instance us_9:Fc (Tryz.prog.underlying 9=some .string):=⟨by kernel_rfl⟩
instance:LB AJ 0 AC (·.P):=⟨AF.f_Pos⟩
instance:LB AJ 3 AC (·.N):=⟨AF.f_Open⟩
instance:LB NC 0 (BX.sl CJ) (·.B):=⟨M2.f_Lo⟩
instance:LB NC 1 (BX.sl CJ) (·.A):=⟨M2.f_Hi⟩
instance:LB BL 4 (BX.sl CJ) (·.Au):=⟨NQ⟩
instance:LB BL 5 NC (·.Ac):=⟨JU⟩
instance:LB B5 0 BX.str (·.O):=⟨AH.f_Name⟩
instance:LB B5 1 (BX.sl BX.str) (·.Z):=⟨JC⟩
instance:LB B5 3 (BX.sl B3) (·.F):=⟨CS⟩
instance:LB B5 4 (BX.sl BL) (·.D):=⟨AH.f_Links⟩
instance:LB B5 5 (BX.sl Gn) (·.Ak):=⟨MR⟩
instance:LB B5 6 (BX.sl ED) (·.Ap):=⟨NE⟩
instance:LB B5 7 (BX.sl Gp) (·.Aq):=⟨Nr⟩
instance:LB B5 8 (BX.sl DC) (·.As):=⟨MS⟩
instance:LB B5 9 (BX.sl AW) (·.Ar):=⟨AH.f_Room⟩
instance:LB BU 2 AC (·.G):=⟨AY.f_Vol⟩
instance:LB DD 1 (BX.sl AC) (·.G):=⟨AX.f_Vol⟩
instance:LB DD 2 (BX.sl BU) (·.E):=⟨AX.f_Queue⟩
instance:LB DD 3 (BX.sl AJ) (·.D):=⟨AX.f_Links⟩
instance:LB Gr 0 (BX.sl AW) (·.Ba):=⟨Cn.f_Rain⟩
instance:LB Gr 1 (BX.sl KF) (·.Bb):=⟨Ky⟩
instance:LB Gr 2 (BX.sl K8) (·.Az):=⟨Mp⟩
instance:LB Gr 3 (BX.sl F3) (·.An):=⟨LO⟩
instance:LB Gr 4 (BX.sl Lz) (·.Bq):=⟨UQ⟩
instance:LB Gq 2 (BX.sl AW) (·.Ad):=⟨PE⟩
instance:LB DX 1 (BX.sl (BX.sl AW)) (·.Af):=⟨LV⟩
instance:LB DX 2 (BX.sl AW) (·.Bj):=⟨PD⟩
instance:LB DX 3 (BX.sl Gq) (·.E):=⟨BQ.f_Queue⟩
instance:LB DX 4 (BX.sl FU) (·.At):=⟨Jq⟩
instance:LB DX 5 (BX.sl AW) (·.Bo):=⟨TD⟩
instance:LB DX 6 (BX.sl AW) (·.Bn):=⟨SO⟩
open Go.RowKit Go.Lib
open Go.Proofs.Tryz
set_option maxRecDepth 10000 in
set_option maxHeartbeats 4000000 in
def Rp {N:Nat}{S:Nat→Prop}{L:List HP}{h:A4}{af ag:Value}{s l:List AY}(hs:St S (OS BU 93 af s::OS BU 93 ag l::L) h) {i:Int}(a0:AA i) {r:List AY}(E:J0 N s i l=some r):
  CA prog 125 #[af,.int .i64 i,ag] S h (λv S' h'=>St S' (OS BU 93 v r::L) h'):=by
 unfold J0 at E;obtain⟨j,x,rfl,hj,rfl,t,rfl⟩:=ZP E;have U:=SY t;have ap:=U.le;rcases (hs.pick (.tail .head)).osbx with ⟨_,q⟩|⟨gv,cv,csv,rfl,ah,hv2,ai,p,hs1⟩
 ·cases q
 have ah:1≤cv:=ah;have ai:csv.length=cv*4:=ai;have p:NL S h BU (csv.take 4) [x]:=by have q:=p;simp only[Aa4,Nat.one_mul] at q;exact q
 have aj:oL S h BU (.slice (some ⟨gv,0,none⟩) 1 cv) [x]:= .inr ⟨⟨gv,0,none⟩,cv,csv.take 4,rfl,by simp [maxLen],p,λq u a=>by
  rw[Og,Qi (NU hs1 (.head _)),xM];rw[zR] at a;split at a
  ·exact a
  ·cases a⟩
 obtain⟨ad,cap,rfl,a5⟩:=hs1.oslen (.tail _ (.head _));have G:room (s.length+[x].length) 32=true:=t;obtain⟨n,hn⟩:∃n,n=s.length:=⟨_,rfl⟩
 rw[←hn] at hs1 hj ap U ⊢;refine A8 (l:=[.slice ad n cap,.int .i64 (j:Int),.slice (some ⟨gv,0,none⟩) 1 cv]) 95 func125 rfl ntmps125 rfl λB=>?_;refine Dj ?_;refine JL (.inl rfl) ?_;refine OH rfl rfl ?_;refine Ip (sb 0 rfl (sb 1 rfl (sb 2 rfl PJ))) ?_;refine Dj ?_;refine JL (.inl rfl) ?_;refine G7 rfl rfl ?_;refine G7 rfl rfl ?_;refine dM rfl rfl sl_33.1 (by omega) (by omega) rfl λu1=>?_;refine Ip (sb 0 rfl (sb 1 rfl (sb 2 rfl PJ))) ?_;refine Dj ?_;refine JL (.inl rfl) ?_;refine G7 rfl rfl ?_;refine Vs rfl sl_33.1 rfl ?_;refine OH rfl rfl ?_;refine Ip (sb 7 rfl (sb 0 rfl (sb 1 rfl (sb 2 rfl PJ)))) ?_;refine Dj ?_;refine Dj ?_;refine JL (.inl rfl) ?_;refine G7 rfl rfl ?_;refine XW rfl rfl rfl ?_;refine Ip (sb 16 rfl (sb 7 rfl (sb 0 rfl (sb 1 rfl (sb 2 rfl PJ))))) ?_;refine Rg rfl (λc1=>?_) (λc1=>?_)
 ·exact absurd (yQ c1) (by omega)
 refine KT ?_;refine Dj ?_;refine JL (.inl rfl) ?_;refine G7 rfl rfl ?_;refine Vs rfl sl_33.1 rfl ?_;refine OH rfl rfl ?_;refine Ip (sb 8 rfl (sb 7 rfl (sb 0 rfl (sb 1 rfl (sb 2 rfl PJ))))) ?_;refine Dj ?_;refine Dj ?_;refine JL (.inl rfl) ?_;refine G7 rfl rfl ?_;refine G7 rfl rfl ?_;refine XW rfl rfl rfl ?_;refine Ip (sb 22 rfl (sb 8 rfl (sb 7 rfl (sb 0 rfl (sb 1 rfl (sb 2 rfl PJ)))))) ?_;refine Rg rfl (λc2=>?_) (λc2=>?_)
 ·have ak:j=n:=by have:=yQ c2;omega
  have aq:s.take j++[x]++s.drop j=s++[x]:=by rw[ak,hn,xU,List.drop_length,xK]
  refine Dj ?_;refine Es ?_;refine IA 2 ?_;refine G7 rfl rfl ?_;refine G7 rfl rfl ?_;refine EI ?_;refine Lt (r:=BU) (l:=s) (xs:=[x]) rfl rfl Ob rfl aj rfl G rfl hs1 (λ_=> .tail .head) λv h' m e2=>?_;refine IA 1 ?_;refine OH rfl rfl ?_;refine EI ?_;refine LF.nil (sb 6 rfl PJ) ?_;refine WF.ret (λaa ww J F=>?_);exact Jw J rfl F (Hr (K5 J (v:=_) rfl) Jr) rfl e2 (by rw[aq];exact m.drop .head)
 have ak:j<n:=by have:=Aaf c2;omega
 rcases (hs1.pick (.tail .head)).osbx with ⟨q1,q2⟩|⟨g,cap',cs,q1,b1,b2,b3,b4,m⟩
 ·exact absurd (show n=0 by rw[hn,q2];rfl) (by omega)
 injection q1 with q1 q2 q3
 subst q1;subst q3;unfold maxLen at b2;have b3:cs.length=cap*4:=b3;have b4:NL S h BU (cs.take (n*4)) s:=by rw[hn];exact b4
 obtain⟨ar,hg,a6⟩:=m.bxne;have V:=NU m (.head _);have au:=NU m (.tail _ (.head _));obtain⟨M,hM⟩:∃M,M=(cs.drop (j*4)).take ((n-j)*4):=⟨_,rfl⟩
 have b:M.length=(n-j)*4:=by rw[hM];simp;omega
 have av:M=(cs.take (n*4)).drop (j*4):=by rw[hM,List.drop_take];congr 1;omega
 have W:NL S h BU M (s.drop j):=by rw[av];exact b4.drop j
 have al:∀u∈M,u.oneCell'=true:=λu hu=>W.one u hu;have K:∀(H:A4),H[g]? =some (.cells cs.toArray 93 (0,0))→∀q u,M[q]? =some u→Ji H ((⟨g,0+j*4,none⟩:Addr).add q)=some u:=λH X q u a=>by
  rw[Og,Qi X];rw[hM,zR] at a;split at a
  ·rw[yS] at a;rwa [xM]
  ·cases a
 have aw:=K h V;have c:(csv.take 4).length=4:=by rw[xT];omega
 have am:∀u∈csv.take 4,u.oneCell'=true:=λu hu=>p.one u (by simpa using hu);have an:∀(H:A4),H[gv]? =some (.cells csv.toArray 93 (0,0))→∀q u,(csv.take 4)[q]? =some u→Ji H ((⟨gv,0,none⟩:Addr).add q)=some u:=λH X q u a=>by
  rw[Og,Qi X,xM];rw[zR] at a;split at a
  ·exact a
  ·cases a
 have d:(s.take j++[x]++s.drop j).length=n+1:=by simp;omega
 refine KT ?_;refine Dj ?_;refine Dj ?_;refine JL (.inl rfl) ?_;refine G7 rfl rfl ?_;refine G7 rfl rfl ?_;refine Qo (z:=(((n+1):Nat):Int)) rfl rfl rfl (Yz (by omega)) ?_;refine G7 rfl rfl ?_;refine gH rfl sl_33.1 rfl ?_;refine XT rfl rfl rfl ?_;refine Ip (sb 31 rfl (sb 8 rfl (sb 7 rfl (sb 0 rfl (sb 1 rfl (sb 2 rfl PJ)))))) ?_;refine Rg rfl (λc3=>?_) (λc3=>?_)
 ·have Q:cap<n+1:=by have:=yQ c3;omega
  have ax:∀q u,(cs.take (j*4))[q]? =some u→Ji h ⟨g,0+q,none⟩=some u:=λq u a=>by
   rw[Qi V,xM];rw[zR] at a;split at a
   ·exact a
   ·cases a
  refine Dj ?_;refine Es ?_;refine IA 8 ?_;refine G7 rfl rfl ?_;refine G7 rfl rfl ?_;refine XP (j:=j) rfl rfl rfl sl_33.1 (by omega) rfl ?_;refine G7 rfl rfl ?_;refine G7 rfl rfl ?_;refine Qo (z:=(((n+1):Nat):Int)) rfl rfl rfl (Yz (by omega)) ?_;refine G7 rfl rfl ?_;refine fY (z:=((((n+1)-j):Nat):Int)) rfl rfl rfl (uI (by omega)) ?_;refine EI ?_;refine oE (j:=((n+1)-j)) (olds:=cs.take (j*4)) rfl rfl rfl Ob uJ (by simp;omega) (λq u a=>ax q u a) (by omega) (by omega) (by rw[show j+(n+1-j)=n+1 by omega];exact U) (by omega) rfl m λc' cs' h' a1 a2 a3 a4 y I Y=>?_;have Z:M.length=Nat.min (n-j) ((j+(n+1-j))-(j+1))*4:=by rw[b];congr 1;simp only[Nat.min_def];split<;>omega
  have ab:(csv.take 4).length=Nat.min 1 ((j+(n+1-j))-j)*4:=by rw[c];simp only[Nat.min_def];split<;>omega
  have ac:∀o,St S (Bx h.size 93 (JN (JN cs' (0+j*4) (csv.take 4)) (0+(j+1)*4) M)::Bx g 93 cs::Bx gv 93 csv::L) o→CX S h S o→St S (OS BU 93 (.slice (some ⟨h.size,0,none⟩) (j+(n+1-j)) c') (s.take j++[x]++s.drop j)::L) o:=λo k e=>by
   have D:=(k.drop (.tail .head)).drop (.tail .head);have q:=D.bxosc (r:=BU) (cap:=c') (l:=s.take j++[x]++s.drop j) (by rw[d];omega) a2 (by show _=c'*4;rw[Ms (by rw[b,Ms (by rw[c];omega)];omega),Ms (by rw[c];omega)];exact a3) (by
    have e1:=XG (cs:=cs') (M:=M) (nv:=csv.take 4) (A:=j*4) (B:=4) (C:=(n-j)*4) b c (by omega);have e2:(s.take j++[x]++s.drop j).length*4=j*4+4+(n-j)*4:=by rw[d];omega
    show NL S o _ (List.take (_*4) _) _
    rw[e2,xM,xM,show(j+1)*4=j*4+4 by omega,e1,a4];have b5:=b4.take j;have I:(cs.take (n*4)).take (j*BU.sz)=cs.take (j*4):=by show(cs.take (n*4)).take (j*4)=_;rw[Aad];congr 1;omega
    rw[I] at b5;exact((b5.append (by simpa using p)).append W).mono e.sub e.same)
   rw[d] at q;rw[show j+(n+1-j)=n+1 by omega];exact q
  refine IA 1 ?_;refine OH rfl rfl ?_;refine EI ?_;refine LF.nil (sb 9 rfl (sb 7 rfl (sb 0 rfl (sb 1 rfl (sb 2 rfl PJ))))) ?_;refine Dj ?_;refine Es ?_;refine IA 4 ?_;refine G7 rfl rfl ?_;refine G7 rfl rfl ?_;refine Ri (j:=j) rfl rfl rfl sl_33.1 (by omega) (by omega) rfl ?_;refine G7 rfl rfl ?_;refine EI ?_;refine Vx (cs':=_) rfl rfl sl_33.1 (news:=csv.take 4) ab (λq u a=>an h' (NU y (.tail _ (.tail _ (.head _)))) q u a) (by rw[c];omega) am rfl rfl y .head λo k e4 ae=>?_;refine LF.nil (sb 9 rfl (sb 7 rfl (sb 0 rfl (sb 1 rfl PJ)))) ?_;refine Dj ?_;refine QU 8 mo (by kernel_rfl) rfl ?_;refine G7 rfl rfl ?_;refine G7 rfl rfl ?_;refine G7 rfl rfl ?_;refine Qo (z:=(((j+1):Nat):Int)) rfl rfl rfl (Yz (by omega)) ?_;refine Ri (j:=(j+1)) rfl rfl rfl sl_33.1 (by omega) (by omega) rfl ?_;refine G7 rfl rfl ?_;refine G7 rfl rfl ?_;refine Ri (j:=j) rfl rfl rfl sl_33.1 (by omega) (by omega) rfl ?_;refine EI ?_;refine Vx (cs':=_) rfl rfl sl_33.1 (news:=M) Z (λq u a=>K o (NU k (.tail _ (.head _))) q u a) (by rw[b,Ms (by rw[c];omega)];omega) al rfl rfl k .head λh5 D e5 ay=>?_;refine LF.nil (sb 9 rfl PJ) ?_;refine Dj ?_;refine JL (.inl rfl) ?_;refine G7 rfl rfl ?_;refine OH rfl rfl ?_;refine Ip (sb 6 rfl PJ) ?_;refine WF.ret (λaa ww J F=>?_);exact Jw J rfl F (Hr (K5 J (v:=_) rfl) Jr) rfl (I.trans (e4.trans e5)) (ac h5 D (I.trans (e4.trans e5)))
 have Q:n+1≤cap:=by have:=Aaf c3;omega
 have Z:M.length=Nat.min (n+1-j) (n+1-(j+1))*4:=by rw[b];congr 1;simp only[Nat.min_def];split<;>omega
 have ab:(csv.take 4).length=Nat.min 1 (n+1-j)*4:=by rw[c];simp only[Nat.min_def];split<;>omega
 have az:∀w,Wd B h w→(callFunc 155 #[.slice (some ⟨gv,0,none⟩) 1 cv,.slice (some ⟨g,0+(j+1)*4,none⟩) (n+1-(j+1)) (cap-(j+1))]).run prog w= .ok (.value (.bool false)) w:=λw F=>by
  have w1:w.heap[g]? =some (.cells cs.toArray 93 (0,0)):=by rw[F.heap];exact V
  have w2:w.heap[gv]? =some (.cells csv.toArray 93 (0,0)):=by rw[F.heap];exact au
  rw[run_callFunc_extern func155 (by kernel_rfl) (by kernel_rfl) (by kernel_rfl) (e:=Extern.SlicesOverlaps.overlaps #[33,33] #[4]) (by kernel_rfl),
   Lib.run_overlaps_apart w 33 4 93 underlying33 4 (λw=>(OR sl_33.1).2 w) ⟨gv,0,none⟩ ⟨g,0+(j+1)*4,none⟩ 1 cv _ _ (λe=>ar e.symm) 93 93 csv.length cs.length (by simp [World.shape?,w2]) (by simp [World.shape?,w1]) (by omega) (by simp [World.frozen?,w2]) (by simp [World.frozen?,w2])]
  rfl
 have ao:∀o,St S (Bx g 93 (JN (JN cs (0+(j+1)*4) M) (0+j*4) (csv.take 4))::Bx gv 93 csv::L) o→CX S h S o→St S (OS BU 93 (.slice (some ⟨g,0,none⟩) (n+1) cap) (s.take j++[x]++s.drop j)::L) o:=λo k e=>by
  have D:=k.drop (.tail .head);have q:=D.bxosc (r:=BU) (cap:=cap) (l:=s.take j++[x]++s.drop j) (by rw[d];exact Q) (by unfold maxLen;omega) (by show _=cap*4;rw[Ms (by rw[c,Ms (by rw[b];omega)];omega),Ms (by rw[b];omega)];exact b3) (by
   have e1:=Wi (cs:=cs) (M:=M) (nv:=csv.take 4) (A:=j*4) (B:=4) (C:=(n-j)*4) b c (by omega);have e2:(s.take j++[x]++s.drop j).length*4=j*4+4+(n-j)*4:=by rw[d];omega
   show NL S o _ (List.take (_*4) _) _
   rw[e2,xM,xM,show(j+1)*4=j*4+4 by omega,e1];have b5:=b4.take j;have I:(cs.take (n*4)).take (j*BU.sz)=cs.take (j*4):=by show(cs.take (n*4)).take (j*4)=_;rw[Aad];congr 1;omega
   rw[I] at b5;exact((b5.append (by simpa using p)).append W).mono e.sub e.same)
  rw[d] at q;exact q
 refine KT ?_;refine Dj ?_;refine JL (.inl rfl) ?_;refine G7 rfl rfl ?_;refine G7 rfl rfl ?_;refine G7 rfl rfl ?_;refine Qo (z:=(((n+1):Nat):Int)) rfl rfl rfl (Yz (by omega)) ?_;refine XP (j:=(n+1)) rfl rfl rfl sl_33.1 (by omega) rfl ?_;refine OH rfl rfl ?_;refine Ip (sb 0 rfl (sb 8 rfl (sb 7 rfl (sb 1 rfl (sb 2 rfl PJ))))) ?_;refine Dj ?_;refine Dj ?_;refine JL (.inl rfl) ?_;refine G7 rfl rfl ?_;refine G7 rfl rfl ?_;refine G7 rfl rfl ?_;refine G7 rfl rfl ?_;refine Qo (z:=(((j+1):Nat):Int)) rfl rfl rfl (Yz (by omega)) ?_;refine Ri (j:=(j+1)) rfl rfl rfl sl_33.1 (by omega) (by omega) rfl ?_;refine gF rfl rfl rfl (λw F=>az w F) ?_;refine XS rfl rfl ?_;refine Ip (sb 68 rfl (sb 0 rfl (sb 8 rfl (sb 7 rfl (sb 1 rfl (sb 2 rfl PJ)))))) ?_;refine QV rfl ?_;refine Dj ?_;refine QU 8 mo (by kernel_rfl) rfl ?_;refine G7 rfl rfl ?_;refine G7 rfl rfl ?_;refine G7 rfl rfl ?_;refine Qo (z:=(((j+1):Nat):Int)) rfl rfl rfl (Yz (by omega)) ?_;refine Ri (j:=(j+1)) rfl rfl rfl sl_33.1 (by omega) (by omega) rfl ?_;refine G7 rfl rfl ?_;refine G7 rfl rfl ?_;refine Ri (j:=j) rfl rfl rfl sl_33.1 (by omega) (by omega) rfl ?_;refine EI ?_;refine Vx (cs':=_) rfl rfl sl_33.1 (news:=M) Z aw (by rw[b];omega) al rfl rfl m .head λH y I Y=>?_;refine LF.nil (sb 0 rfl (sb 1 rfl (sb 2 rfl PJ))) ?_;refine Dj ?_;refine Es ?_;refine IA 4 ?_;refine G7 rfl rfl ?_;refine G7 rfl rfl ?_;refine Ri (j:=j) rfl rfl rfl sl_33.1 (by omega) (by omega) rfl ?_;refine G7 rfl rfl ?_;refine EI ?_;refine Vx (cs':=_) rfl rfl sl_33.1 (news:=csv.take 4) ab (λq u a=>an H (NU y (.tail _ (.head _))) q u a) (by rw[c,Ms (by rw[b];omega)];omega) am rfl rfl y .head λo k e4 ae=>?_;refine LF.nil (sb 0 rfl PJ) ?_;refine Dj ?_;refine JL (.inl rfl) ?_;refine G7 rfl rfl ?_;refine OH rfl rfl ?_;refine Ip (sb 6 rfl PJ) ?_;refine WF.ret (λaa ww J F=>?_);exact Jw J rfl F (Hr (K5 J (v:=_) rfl) Jr) rfl (I.trans e4) (ao o k (I.trans e4))
open Go.RowKit
set_option maxRecDepth 10000
set_option maxHeartbeats 2000000
variable {N:Nat}{S:Nat→Prop}{L:List HP}{h:A4}
def Jy (k:St S L h) {b:Value}{c:(List AB)}(a:Sl S h AC b c) {r:(List AB)}(E:Cq N c=some r):
 CA prog 48 #[b] S h (λv n h'=>St n (OS AC 51 v r::L) h'):=by
 refine A8 8 func48 O ntmps48 O λB=>?_;rw[Cq] at E;rcases a.cases with ⟨rfl,rfl⟩|⟨o,m,rfl,a⟩
 ·have t:(some ([]:List AB))=some r:=by simpa [chk,room] using E
  refine AU ?_;refine Vu O O O Zr (AU ?_);refine QV O (AU ?_);have d:=k.nil AC 51;cases E;exact Ma d O O EX
 refine AU ?_;refine XV O O O Zr (AU ?_);refine UJ O (AU ?_);refine UN (r:=AC) Ng O O k λu w g p=>AU ?_;have q:=a.mono' p;obtain⟨i,E⟩:=Qw E;refine Lt (r:=AC) (l:=([]:List AB)) (xs:=c) O O Ng O (Sl.src q) O i O g (λ_=> .head) λx y j s=>AU ?_;cases E;exact Ma j O O EX
def Jh (k:St S L h) {b:Value}{c:(List AF)}(a:Sl S h AJ b c) {r:(List AF)}(E:Ci N c=some r):
 CA prog 49 #[b] S h (λv n h'=>St n (OS AJ 97 v r::L) h'):=by
 refine A8 8 func49 O ntmps49 O λB=>?_;rw[Ci] at E;rcases a.cases with ⟨rfl,rfl⟩|⟨o,m,rfl,a⟩
 ·have t:(some ([]:List AF))=some r:=by simpa [chk,room] using E
  refine AU ?_;refine Vu O O O Zq (AU ?_);refine QV O (AU ?_);have d:=k.nil AJ 97;cases E;exact Ma d O O EX
 refine AU ?_;refine XV O O O Zq (AU ?_);refine UJ O (AU ?_);refine UN (r:=AJ) S3 O O k λu w g p=>AU ?_;have q:=a.mono' p;obtain⟨i,E⟩:=Qw E;refine Lt (r:=AJ) (l:=([]:List AF)) (xs:=c) O O S3 O (Sl.src q) O i O g (λ_=> .head) λx y j s=>AU ?_;cases E;exact Ma j O O EX
def LE (i:St S L h) {b:Int}(d:AA b) {a:Int}(c:AA a) {r:Bool}(E:HQ N b a=some r):
 CA prog 45 #[vI b,vI a] S h (λv g h'=>v= .bool r∧St g (L) h'):=by
 refine A8 12 func45 O ntmps45 O λB=>?_;rw[HQ] at E;exact RT
def G2 (k:St S L h) {a:Int}(b:AA a) {r:AB}(E:DO N a=some r):
 CA prog 66 #[vI a] S h (λv l h'=>v= .agg #[vI r.B,vI r.A]∧AB.ok r∧St l (L) h'):=by
 refine A8 6 func66 O ntmps66 O λB=>?_;rw[DO] at E;refine AU ?_;refine BZ EU O k λm n d o=>AU ?_;refine CT (cs:=[vI a,vI a]) HY O O O (AU ?_);refine BI O O O O ty_51.1 O d .head O λp c q=>AU ?_;refine WF.ret (λs t i j=>?_);have g:=c.drop .head;cases E;exact Jw i O j (Hr (NS i j c O mh ty_51.1 O) Jr) O EX ⟨O,⟨b,b⟩,g⟩
def Ls (m:St S L h) {c:Int}(i:AA c) {b:Int}(g:AA b) {a:Int}(d:AA a) {r:Int}(E:Ie N c b a=some r):
 CA prog 145 #[vI c,vI b,vI a] S h (λv j h'=>v=vI r∧AA r∧St j (L) h'):=by
 refine A8 16 func145 O ntmps145 O λB=>?_;rw[Ie] at E;refine AU ?_;refine AE O E (λk E=>?_) (λk E=>?_)
 ·exact RT
 refine AU ?_;refine AE O E (λl E=>?_) (λl E=>?_)
 ·exact RT
 exact RT
def VS (hs:St S L h) {g:Value}{s:AS}(k:Rd S h BL g s) {j:Value}{b:Cs}(l:Rd S h FU j b) {c:Int}(d:AA c) {r:Cs}(E:Mg N s b c=some r):
 CA prog 100 #[g,j,vI c] S h (λv S' h'=>v= .agg #[vI r.P,vI r.S,.bool r.Bd,.bool r.N]∧Cs.ok r∧St S' (L) h'):=by
 refine A8 16 func100 O ntmps100 O λB=>?_;rw[Mg] at E;refine AU ?_;refine A6 O k CE O hs λq1 S2 h3 Q e5 k6=>?_;have k7:=l.mono e5;obtain⟨rfl,⟨r9,U⟩⟩:=FU.ex k7;refine OI O O O Q λy ad z ae=>BZ Rl O z λA C t af=>?_;have V:=k6.nw;refine AU ?_;refine F2 (λa w=>∃(m:Int),IV B S2 C (16,[]) a w [(6,vP A 0),(4,vP y 0)] (Bx A 81 [vI 0,vI 0,.bool false,.bool false]::Bx y 81 [vI b.P,vI m,.bool b.Bd,.bool b.N]::L) λ_ _=>AA m∧Li N b m=some r) ?_ ?_
 ·refine AE O E (λW E=>?_) (λW E=>?_)
  ·refine Es ?_;have X:=V.fl Co;have Y:=X.i;refine AU ?_;refine Ia E O O O Vd O t (λx D=>Ls (St.all _) d (iq (n:=0) O) Y D) λx E ag ah ai F aj ak p=>?_;obtain⟨rfl,Z,ac⟩:=p;refine AU ?_;refine HH (cs':=[vI b.P,vI x,.bool b.Bd,.bool b.N]) O O O O ty_3.1 O F (.tail .head) O O λam G an=>AU ?_;refine WF.nil (λK M o q=>?_);exact⟨x,_,_,o.sub (kp [6,4] O),q,G,EX,Z,E⟩
  refine AU ?_;refine WF.nil (λK M o q=>?_);exact⟨b.S,_,_,o.sub (kp [6,4] O),q,t,(CX.refl S2 C),U,E⟩
 rintro K M ⟨m,ao,ap,o,q,H,aq,ab,E⟩;refine AI ?_ o q;clear o q M K;rw[Li] at E;refine AU ?_;refine BI O O O O ty_81.1 O H .head O λar I au=>AU ?_;refine WF.ret (λK M o q=>?_);have u:=I.drop (.tail .head);have J:=u.drop .head;cases E;exact Jw o O q (Hr (NS o q u O mh ty_81.1 O) Jr) O EX ⟨O,⟨r9,ab⟩,J⟩
def Fh (k:St S L h) {a:Int}(c:AA a) {b:Int}(d:AA b) {r:Int}(E:Da N a b=some r):
 CA prog 106 #[vI a,vI b] S h (λv g h'=>v=vI r∧AA r∧St g (L) h'):=by
 refine A8 24 func106 O ntmps106 O λB=>?_;rw[Da] at E;refine AU ?_;refine AE O E (λi E=>?_) (λi E=>?_)
 ·exact RT
 refine AU ?_;refine AE O E (λj E=>?_) (λj E=>?_)
 ·exact RT
 exact RT
def Ge (k:St S L h) {a:Int}(c:AA a) {b:Int}(d:AA b) {r:Int}(E:Dz N a b=some r):
 CA prog 60 #[vI a,vI b] S h (λv g h'=>v=vI r∧AA r∧St g (L) h'):=by
 refine A8 24 func60 O ntmps60 O λB=>?_;rw[Dz] at E;refine AU ?_;refine AE O E (λi E=>?_) (λi E=>?_)
 ·exact RT
 refine AU ?_;refine AE O E (λj E=>?_) (λj E=>?_)
 ·exact RT
 exact RT
def Ua (hs:St S L h) {b:Value}{j:AS}(d:Rd S h BL b j) {c:Value}{a:Cs}(g:Rd S h FU c a) {r:Cs}(E:Mw N j a=some r):
 CA prog 147 #[b,c] S h (λv S' h'=>v= .agg #[vI r.P,vI r.S,.bool r.Bd,.bool r.N]∧Cs.ok r∧St S' (L) h'):=by
 refine A8 26 func147 O ntmps147 O λB=>?_;rw[Mw] at E;refine AU ?_;refine A6 O d CE O hs λq1 S2 h3 M e5 k6=>?_;have k7:=g.mono e5;obtain⟨rfl,⟨Q,q⟩⟩:=FU.ex k7;refine OI O O O M λam an s ao=>BZ Rl O s λap aq k ar=>AU ?_;refine AE O E (λU E=>?_) (λU E=>?_)
 ·refine AU ?_;refine BI O O O O ty_81.1 O k .head O λau t av=>AU ?_;refine WF.ret (λaa ww u w=>?_);have l:=t.drop (.tail .head);have x:=l.drop .head;cases E;exact Jw u O w (Hr (NS u w l O mh ty_81.1 O) Jr) O EX ⟨O,⟨Q,q⟩,x⟩
 refine AU ?_;refine WF.rc (.inr ⟨mo,by kernel_rfl⟩) k (AU ?_);refine A5 E O O O Mj O (λV y h' o=>Fh (St.all h') q Q y) λV E W=>?_;have X:=W;have z:=k6.nw;have Y:=z.fl HI;have Z:=Y.i;refine AU ?_;refine A5 E O O O Mj O (λab A h' o=>Fh (St.all h') (iq (n:=0) O) Z A) λab E ac=>?_;have ad:=ac;have ae:=z.fl HI;have af:=ae.i;refine AU ?_;refine A5 E O O O Vd O (λag C h' o=>Ls (St.all h') X ad af C) λag E ah=>?_;have ai:=ah;refine AU ?_;refine BB (kp [5,4,3] O) λaw D ax=>AU ?_;refine Es (AU ?_);refine Ia E O O O PN O D (λF G=>Ge (St.all _) Q ai G) λF E ay az a0 H a1 a2 p=>?_;obtain⟨rfl,aj,ak⟩:=p;refine AU ?_;refine HH (cs':=[vI F,vI a.S,.bool a.Bd,.bool a.N]) O O O O ty_3.1 O H (.tail .head) O O λa3 I a4=>AU ?_;refine BI O O O O ty_81.1 O I .head O λa5 J a6=>AU ?_;refine WF.ret (λaa ww u w=>?_);have m:=J.drop (.tail .head);have K:=m.drop .head;cases E;exact Jw u O w (Hr (NS u w m O mh ty_81.1 O) Jr) O EX ⟨O,⟨aj,q⟩,K⟩
def Oa (m:St S L h) {a:Int}(b:AA a) {c:Value}{k:AS}(g:Pt S h BL c k) {d:Value}{c2_:AF}(j:Pt S h AJ d c2_) {r:Int}(E:Ik N k c2_ a=some r):
 CA prog 146 #[vI a,c,d] S h (λv p h'=>v=vI r∧AA r∧St p (L) h'):=by
 refine A8 12 func146 O ntmps146 O λB=>?_;rw[Ik] at E;refine AU ?_;refine WF.rc (.inl O) m ?_;obtain⟨z,_,q⟩:=g.lv;have s:=j.fl AF.f_Target;have t:=s.i;refine AU ?_;refine CT (cs:=[vI a,vI c2_.S,.bool false,.bool false]) Xm O O O ?_;obtain⟨A,l,E⟩:=bd E;refine IZ O O O mK O (λh' o=>Ua (St.all h') (q.mono (o.all m.1)) (FU.mk (x:=(⟨a,c2_.S,false,false⟩:Cs)) ⟨b,t⟩) l) λu=>?_;obtain⟨C,D⟩:=u;refine XU O fS O O (AU ?_);exact BB (kp [4] O) λw n y=>RT
def T0 (hs:St S L h) {g:Value}{u:AS}(k:Rd S h BL g u) {j:Value}{a:AF}(l:Rd S h AJ j a) {d:Bool}{r:AF}(E:Km N u a d=some r):
 CA prog 101 #[g,j,.bool d] S h (λv S' h'=>v= .agg #[vI r.P.B,vI r.P.A,vI r.S,vI r.N.B,vI r.N.A]∧AF.ok r∧St S' (L) h'):=by
 refine A8 44 func101 O ntmps101 O λB=>?_;rw[Km] at E;refine AU ?_;refine A6 O k CE O hs λq1 S2 h3 ah e5 k6=>?_;have k7:=l.mono e5;obtain⟨rfl,⟨r9,m,p,q,s⟩⟩:=AJ.ex k7;refine OI O O O ah λa8 a9 H ba=>BZ So O H λbb bc c be=>AU ?_;refine AE O E (λai E=>?_) (λai E=>?_)
 ·refine AU ?_;refine OG O O O (AU ?_);refine GZ 12 mo (by kernel_rfl) O c (AU ?_);have I:=k6.nw;refine A5 E O O O cN O (λz J h' o=>Oa (St.all h') r9 (I.mono (o.all c.1)) (Ny.mono (c.bxAll (r:=AJ) (x:=a) (mt mh) ⟨O,⟨r9,m,p,q,s⟩⟩) ⟨λb C=>wX C o.siz,λb C=>o.same b C,o.siz⟩) J) λz E aj=>?_;have ak:=aj;refine AU ?_;refine A5 E O O O cN O (λD K h' o=>Oa (St.all h') m (I.mono (o.all c.1)) (Ny.mono (c.bxAll (r:=AJ) (x:=a) (mt mh) ⟨O,⟨r9,m,p,q,s⟩⟩) ⟨λb C=>wX C o.siz,λb C=>o.same b C,o.siz⟩) K) λD E am=>?_;have an:=am;refine CT (cs:=[vI z,vI D]) HY O O O (AU ?_);refine ET λbf M bg=>?_;refine HH (cs':=[vI z,vI D,vI a.S,vI a.N.B,vI a.N.A]) O O O O ty_51.1 O M (.tail .head) O O λbh Q bi=>AU ?_;refine BI O O O O ty_97.1 O Q .head O λbj U bk=>AU ?_;refine WF.ret (λaa ww V W=>?_);have w:=U.drop (.tail .head);have X:=w.drop .head;cases E;exact Jw V O W (Hr (NS V W w O mh ty_97.1 O) Jr) O EX ⟨O,⟨ak,an,p,q,s⟩,X⟩
 refine AU ?_;refine GZ 20 mo (by kernel_rfl) O c ?_;have t:=k6.nw;have ao:=t.fl HI;have ap:=ao.i;refine AU ?_;refine A5 E O O O Mj O (λaq Y h' o=>Fh (St.all h') r9 ap Y) λaq E ar=>?_;have au:=ar;have av:=t.fl Co;have aw:=av.i;refine AU ?_;refine A5 E O O O Vd O (λF Z h' o=>Ls (St.all h') au (iq (n:=0) O) aw Z) λF E ax=>?_;have ay:=ax;have az:=t.fl HI;have a0:=az.i;refine AU ?_;refine A5 E O O O PN O (λa1 ab h' o=>Ge (St.all h') m a0 ab) λa1 E a2=>?_;have a3:=a2;have a4:=t.fl Co;have a5:=a4.i;refine AU ?_;refine A5 E O O O Vd O (λG ac h' o=>Ls (St.all h') a3 (iq (n:=0) O) a5 ac) λG E a6=>?_;have a7:=a6;refine CT (cs:=[vI F,vI G]) HY O O O (AU ?_);refine ET λbl ad bm=>?_;refine HH (cs':=[vI F,vI G,vI a.S,vI a.N.B,vI a.N.A]) O O O O ty_51.1 O ad (.tail .head) O O λbn ae bo=>AU ?_;refine BI O O O O ty_97.1 O ae .head O λbp af bq=>AU ?_;refine WF.ret (λaa ww V W=>?_);have y:=af.drop (.tail .head);have ag:=y.drop .head;cases E;exact Jw V O W (Hr (NS V W y O mh ty_97.1 O) Jr) O EX ⟨O,⟨ay,a7,p,q,s⟩,ag⟩
def Qt {j:Nat}{p0_w:B0}{q:Value}{s:Value}{m:Value}{t:Value}{u:Value}{y:Value}{z:Value}{A:Value}{c:Value}{k:Value}{g:Value}{d:Value}(hs:St S (Bx j 106 [.string p0_w.b.O,q,vI p0_w.b.T,s,m,t,u,y,z,A,vI p0_w.b.U,vI p0_w.h.H,c,k,g,d]::OS AC 51 c p0_w.h.G::OS AJ 97 g p0_w.h.D::OS AC 51 d p0_w.peaks::L) h) (cc:p0_w.b.O.size≤maxLen) (cd:Sl S h BX.str q p0_w.b.Z) (ce:AA p0_w.b.T) (cf:Sl S h B3 s p0_w.b.F) (M:Sl S h BL m p0_w.b.D) (cg:Sl S h Gn t p0_w.b.Ak) (ch:Sl S h ED u p0_w.b.Ap) (ci:Sl S h Gp y p0_w.b.Aq) (cj:Sl S h DC z p0_w.b.As) (ck:Sl S h AW A p0_w.b.Ar) (bc:AA p0_w.b.U) (be:AA p0_w.h.H) (bf:Sl S h BU k p0_w.h.E) {aj:Value}{I:Cn}(aq:Rd S h Gr aj I) {p:Value}{C:(List Bool)}(ac:Sl S h BX.bool p C) {r:(List AF)}(E:Ht N p0_w I C=some r):
 CA prog 50 #[vP j 0,aj,p] S h (λv S' h'=>∃an:Value,v= .tuple #[]∧St S' (Bx j 106 [.string p0_w.b.O,q,vI p0_w.b.T,s,m,t,u,y,z,A,vI p0_w.b.U,vI p0_w.h.H,c,k,an,d]::OS AC 51 c p0_w.h.G::OS AJ 97 an r::OS AC 51 d p0_w.peaks::L) h'):=by
 refine A8 155 func50 O ntmps50 O λB=>?_;rw[Ht] at E;refine AU ?_;refine A6 O aq CE O hs λq1 S2 h3 e9 e5 k6=>?_;have k8:=k6.fl Ky;obtain⟨v9,_,fa⟩:=k8.ll;refine AU ?_;refine AN (λa w=>∃(ay:List AF),IV B S2 h3 (155,[]) a w [(4,q1),(0,vP j 0),(2,p)] (Bx j 106 [.string p0_w.b.O,q,vI p0_w.b.T,s,m,t,u,y,z,A,vI p0_w.b.U,vI p0_w.h.H,c,k,g,d]::OS AC 51 c p0_w.h.G::OS AJ 97 g ay::OS AC 51 d p0_w.peaks::L) λ_ _=>C0 N p0_w I C ay=some r) ?_ ?_
 ·refine BA (λn1=>λa w=>∃(am:Int) (ag:List AF),IV B S2 h3 (155,[]) a w [(15,vI (↑I.Bb.length:Int)),(14,v9),(4,q1),(0,vP j 0),(2,p),(16,vI am)] (Bx j 106 [.string p0_w.b.O,q,vI p0_w.b.T,s,m,t,u,y,z,A,vI p0_w.b.U,vI p0_w.h.H,c,k,g,d]::OS AC 51 c p0_w.h.G::OS AJ 97 g ag::OS AC 51 d p0_w.peaks::L) λ_ _=>AA am∧CC N p0_w I (C0 N p0_w I C) n1 am ag=some r) N ?_ ?_ ?_
  ·intro W X J K;exact⟨0,p0_w.h.D,_,_,J.sub (kp [15,14,4,0,2,16] O),K,e9,(CX.refl S2 h3),(iq (n:=0) O),E⟩
  ·rintro W X ⟨_,_,_,_,_,_,_,_,_,E⟩;rw[CC] at E;cases E
  rintro n1 W X ⟨am,ag,fb,fc,J,K,a1,cl,hj,E⟩;refine AI ?_ J K;clear J K X W;rw[CC] at E;refine AU ?_;refine AE O E (λfd E=>?_) (λfd E=>?_)
  ·refine AU ?_;refine AN (λa w=>∃(az:List AF),IV B fb fc (155,[]) a w [(15,vI (↑I.Bb.length:Int)),(14,v9),(4,q1),(0,vP j 0),(2,p),(16,vI am)] (Bx j 106 [.string p0_w.b.O,q,vI p0_w.b.T,s,m,t,u,y,z,A,vI p0_w.b.U,vI p0_w.h.H,c,k,g,d]::OS AC 51 c p0_w.h.G::OS AJ 97 g az::OS AC 51 d p0_w.peaks::L) λ_ _=>EO N am (CC N p0_w I (C0 N p0_w I C) n1) az=some r) ?_ ?_
   ·refine AU ?_;have fe:=fa.mono' cl;refine AO E O O fe sl_37.1 O λa0 E hk ff=>?_;obtain⟨hl,_,fg⟩:=ff.lv;refine AU ?_;refine BZ jF O a1 λhm hn cm fh=>?_;have fi:=fg.mono fh;obtain⟨rfl,⟨ho,fj⟩⟩:=KF.ex fi;refine BI O O O O ty_171.1 O cm .head O λhp cn hq=>AU ?_;refine WF.rc (.inr ⟨mo,by kernel_rfl⟩) cn ?_;have fk:=M.nw;have fm:=fk.le;refine AU ?_;refine BE E O O O Wj O (λco cp h' o=>LE (St.all h') fj (MB fm) cp) λco E=>AU ?_;obtain⟨fn,Y,E⟩:=bd E;refine A0 12 42 (.bool fn) ?_ ?_
    ·cases cq:(!co)
     ·have Y:=HX cq Y;refine AU ?_;have fo:=M.nw;refine AO Y O O fo sl_24.1 O λhr Y ht hu=>AU ?_;cases Y;exact AZ O
     have Y:=HU cq Y;cases Y;exact BM O O
    refine BB (kp [42,7,15,14,4,0,2,16] O) λhv ah hx=>AE O E (λfp E=>?_) (λfp E=>?_)
    ·refine WF.exit O (λW X J K=>?_);have cr:=ah.sel [1,1,1,1] 1 O;exact⟨ag,_,_,J.sub (kp [15,14,4,0,2,16] O),K,cr,EX,E⟩
    refine AU ?_;refine BG (AU ?_);refine AE O E (λfq E=>?_) (λfq E=>?_)
    ·refine GZ 10 mo (by kernel_rfl) O ah (AU ?_);refine A5 E O O O N6 O (λbg ct h' o=>G2 (St.all h') (iq (n:=1) O) ct) λbg E fr=>?_;obtain⟨fs,ft⟩:=fr;obtain⟨hy,cu,E⟩:=bd E;refine CR ah (mt (mt (mt mh))) O O sl_34.1 cu O λhz cv=>ML O cv fa_97_2.1 O λh0 cw=>ET λh1 cx h2=>?_;obtain⟨cy,cz,E⟩:=bd E;refine JS (r:=AJ) (l:=ag) (i:=a0.Aa) (x:=cy) O O (AC.mk (x:=bg) ⟨fs,ft⟩) cw cz AF.u_Open ty_51.1 CE cx (.tail (.tail (.tail .head))) λh4 c0 h5=>AU ?_;refine BP (WF.nil (λW X J K=>?_));have c1:=c0.sel [1,1,1,1] 1 O;exact⟨(upd ag a0.Aa ({ cy with N:=bg})),_,_,J.sub (kp [15,14,4,0,2,16] O),K,c1,EX,E⟩
    refine AU ?_;refine AE O E (λfu E=>?_) (λfu E=>?_)
    ·refine GZ 10 mo (by kernel_rfl) O ah (AU ?_);refine A5 E O O O N6 O (λbh c2 h' o=>G2 (St.all h') (iq (n:=0) O) c2) λbh E fv=>?_;obtain⟨fw,fx⟩:=fv;obtain⟨h6,c3,E⟩:=bd E;refine CR ah (mt (mt (mt mh))) O O sl_34.1 c3 O λh7 c4=>ML O c4 fa_97_2.1 O λh8 c5=>ET λh9 c6 ia=>?_;obtain⟨c7,c8,E⟩:=bd E;refine JS (r:=AJ) (l:=ag) (i:=a0.Aa) (x:=c7) O O (AC.mk (x:=bh) ⟨fw,fx⟩) c5 c8 AF.u_Open ty_51.1 CE c6 (.tail (.tail (.tail .head))) λib c9 ic=>AU ?_;refine BP (WF.nil (λW X J K=>?_));have da:=c9.sel [1,1,1,1] 1 O;exact⟨(upd ag a0.Aa ({ c7 with N:=bh})),_,_,J.sub (kp [15,14,4,0,2,16] O),K,da,EX,E⟩
    refine AU ?_;refine BP (WF.nil (λW X J K=>?_));have bi:=ah.sel [1,1,1,1] 1 O;exact⟨ag,_,_,J.sub (kp [15,14,4,0,2,16] O),K,bi,EX,E⟩
   rintro W X ⟨az,fy,fz,J,K,bj,f0,E⟩;refine AI ?_ J K;clear J K X W;rw[EO] at E;refine AU ?_;refine WF.nil (λW X J K=>?_);exact⟨(BV (am+1)),az,_,_,J.sub (kp [15,14,4,0,2,16] O),K,bj,EX,(BY _),E⟩
  refine WF.exit O (λW X J K=>?_);exact⟨ag,_,_,J.sub (kp [4,0,2] O),K,a1,cl,E⟩
 rintro W X ⟨ay,ar,au,J,K,bk,db,E⟩;refine AI ?_ J K;clear J K X W;rw[C0] at E;have dc:=k6.mono db;have dd:=dc.fl Mp;obtain⟨a2,_,de⟩:=dd.ll;refine AU ?_;refine AN (λa w=>∃(ao:List AF),IV B ar au (155,[]) a w [(0,vP j 0),(2,p)] (Bx j 106 [.string p0_w.b.O,q,vI p0_w.b.T,s,m,t,u,y,z,A,vI p0_w.b.U,vI p0_w.h.H,c,k,g,d]::OS AC 51 c p0_w.h.G::OS AJ 97 g ao::OS AC 51 d p0_w.peaks::L) λ_ _=>Cz N p0_w C ao=some r) ?_ ?_
 ·refine BA (λn4=>λa w=>∃(ad:Int) (ae:List AF),IV B ar au (155,[]) a w [(72,vI (↑I.Az.length:Int)),(71,a2),(0,vP j 0),(2,p),(73,vI ad)] (Bx j 106 [.string p0_w.b.O,q,vI p0_w.b.T,s,m,t,u,y,z,A,vI p0_w.b.U,vI p0_w.h.H,c,k,g,d]::OS AC 51 c p0_w.h.G::OS AJ 97 g ae::OS AC 51 d p0_w.peaks::L) λ_ _=>AA ad∧CY N p0_w I (Cz N p0_w C) n4 ad ae=some r) N ?_ ?_ ?_
  ·intro W X J K;exact⟨0,ay,_,_,J.sub (kp [72,71,0,2,73] O),K,bk,(CX.refl ar au),(iq (n:=0) O),E⟩
  ·rintro W X ⟨_,_,_,_,_,_,_,_,_,E⟩;rw[CY] at E;cases E
  rintro n4 W X ⟨ad,ae,df,dg,J,K,av,a3,f1,E⟩;refine AI ?_ J K;clear J K X W;rw[CY] at E;refine AU ?_;refine AE O E (λdh E=>?_) (λdh E=>?_)
  ·refine AU ?_;refine AN (λa w=>∃(ap:List AF),IV B df dg (155,[]) a w [(72,vI (↑I.Az.length:Int)),(71,a2),(0,vP j 0),(2,p),(73,vI ad)] (Bx j 106 [.string p0_w.b.O,q,vI p0_w.b.T,s,m,t,u,y,z,A,vI p0_w.b.U,vI p0_w.h.H,c,k,g,d]::OS AC 51 c p0_w.h.G::OS AJ 97 g ap::OS AC 51 d p0_w.peaks::L) λ_ _=>GP N ad (CY N p0_w I (Cz N p0_w C) n4) ap=some r) ?_ ?_
   ·refine AU ?_;have di:=de.mono' a3;refine AO E O O di sl_38.1 O λa4 E f2 dj=>?_;obtain⟨f3,_,dk⟩:=dj.lv;refine AU ?_;refine BZ jE O av λf4 f5 bl dl=>?_;have dm:=dk.mono dl;obtain⟨rfl,⟨dn,dp⟩⟩:=K8.ex dm;refine BI O O O O ty_173.1 O bl .head O λf6 bm f7=>AU ?_;refine WF.rc (.inr ⟨mo,by kernel_rfl⟩) bm ?_;have dq:=M.nw;have dr:=dq.le;refine AU ?_;refine BE E O O O Wj O (λds bn h' o=>LE (St.all h') dn (MB dr) bn) λds E=>BB (kp [85,9,72,71,0,2,73] O) λf8 af f9=>AE O E (λdt E=>?_) (λdt E=>?_)
    ·refine AU ?_;refine JL (.inr ⟨mo,by kernel_rfl⟩) (AU ?_);obtain⟨ga,bo,E⟩:=bd E;refine CR af (mt (mt (mt mh))) O O sl_34.1 bo O λgb ai=>AU ?_;refine GZ 21 mo (by kernel_rfl) O af (AU ?_);have du:=M.nw;refine AO E O O du sl_24.1 O λgc E ge dv=>?_;obtain⟨gf,_,dw⟩:=dv.lv;refine AU ?_;refine dR O ai O (ML O ai fa_97_1.1 O λgg bp=>?_);obtain⟨a5,bq,E⟩:=bd E;have dx:=af.epAt (mt (mt (mt mh))) bq AF.f_Target bp;refine G0 RG (λ_ x=>x) O dx ty_3.1 O λdy=>CT (cs:=[vI 0,vI a5.S,.bool false,.bool false]) Xm O O O (AU ?_);obtain⟨a6,br,E⟩:=bd E;refine IZ O O O nD O (λh' o=>VS (St.all h') (dw.mono (o.all af.1)) (FU.mk (x:=(⟨0,a5.S,false,false⟩:Cs)) ⟨(iq (n:=0) O),dy⟩) dp br) λdz=>?_;obtain⟨gh,d0⟩:=dz;refine XU O fR O O (dR O ai O (ML O ai fa_97_1.1 O λgi bs=>ET λgj bt gk=>?_));obtain⟨a7,bu,E⟩:=bd E;refine JS (r:=AJ) (l:=ae) (i:=a4.Aa) (x:=a7) O O (⟨_,O,O,d0⟩:Rd _ _ AW _ a6.S) bs bu AF.u_Target ty_3.1 (λ_=>rfl) bt (.tail (.tail (.tail .head))) λgl bv gm=>AU ?_;refine WF.nil (λW X J K=>?_);have bw:=bv.sel [1,1,1,1] 1 O;exact⟨(upd ae a4.Aa ({ a7 with S:=a6.S})),_,_,J.sub (kp [72,71,0,2,73] O),K,bw,EX,E⟩
    refine AU ?_;refine WF.nil (λW X J K=>?_);have bx:=af.sel [1,1,1,1] 1 O;exact⟨ae,_,_,J.sub (kp [72,71,0,2,73] O),K,bx,EX,E⟩
   rintro W X ⟨ap,gn,gp,J,K,bz,gq,E⟩;refine AI ?_ J K;clear J K X W;rw[GP] at E;refine AU ?_;refine WF.nil (λW X J K=>?_);exact⟨(BV (ad+1)),ap,_,_,J.sub (kp [72,71,0,2,73] O),K,bz,EX,(BY _),E⟩
  refine WF.exit O (λW X J K=>?_);exact⟨ae,_,_,J.sub (kp [0,2] O),K,av,a3,E⟩
 rintro W X ⟨ao,a8,a9,J,K,b0,gr,E⟩;refine AI ?_ J K;clear J K X W;rw[Cz] at E;have d1:=M.nw;refine AU ?_;refine BG (BA (λn6=>λa w=>∃(ab:Int) (ak:List AF),IV B a8 a9 (155,[]) a w [(121,vI (↑p0_w.b.D.length:Int)),(120,m),(0,vP j 0),(2,p),(122,vI ab)] (Bx j 106 [.string p0_w.b.O,q,vI p0_w.b.T,s,m,t,u,y,z,A,vI p0_w.b.U,vI p0_w.h.H,c,k,g,d]::OS AC 51 c p0_w.h.G::OS AJ 97 g ak::OS AC 51 d p0_w.peaks::L) λ_ _=>AA ab∧Dy N p0_w C n6 ab ak=some r) N ?_ ?_ ?_)
 ·intro W X J K;exact⟨0,ao,_,_,J.sub (kp [121,120,0,2,122] O),K,b0,(CX.refl a8 a9),(iq (n:=0) O),E⟩
 ·rintro W X ⟨_,_,_,_,_,_,_,_,_,E⟩;rw[Dy] at E;cases E
 rintro n6 W X ⟨ab,ak,gs,gu,J,K,aw,d2,gv,E⟩;refine AI ?_ J K;clear J K X W;rw[Dy] at E;refine AU ?_;refine AE O E (λd3 E=>?_) (λd3 E=>?_)
 ·refine AU ?_;refine BG (AU ?_);have d4:=d1.mono' d2;refine AO E O O d4 sl_24.1 O λd5 E gw d6=>?_;obtain⟨gx,_,d7⟩:=d6.lv;refine AU ?_;refine BZ NW O aw λgy gz b1 d8=>AU ?_;have d9:=d7.mono d8;obtain⟨g0,g1,g2,rfl,ea,eb,ec,ed,ee,ef,eg,eh,ei,ej,ek,el,em,en,eo,ep,eq,er⟩:=BL.ex d9;refine G1 O O O ON ty_102.1 O b1 .head O λg3 Q ax=>AU ?_;refine GZ 27 mo (by kernel_rfl) O Q (AU ?_);obtain⟨g4,b2,E⟩:=bd E;refine CR Q (mt (mt (mt mh))) O O sl_34.1 b2 O λg5 b3=>?_;obtain⟨g6,b4,E⟩:=bd E;have es:=Q.epAt (mt (mt (mt mh))) b4 Gs.id b3;refine Iz RG (λ_ x=>x) O es ty_97.1 CE O λg7 eu=>?_;have g8:=ac.nw;refine AU ?_;obtain⟨ev,V,E⟩:=bd E;refine A0 5 151 (.bool ev) ?_ ?_
  ·cases ba:(decide (ab<(↑C.length:Int)))
   ·have V:=HX ba V;cases V;exact BM O O
   have V:=HU ba V;refine AU ?_;have ew:=ac.nw;refine AO V O O ew sl_43.1 O λg9 V ha hb=>AU ?_;cases V;exact AZ O
  have ey:=ee.mono' ax;have ez:=ef.mono' ax;have e0:=eg.mono' ax;obtain⟨bb,b5,E⟩:=bd E;refine IZ O O O nC O (λh' o=>T0 (St.all h') (BL.mk (x:=d5) ea eb ec ed (ey.mono' (o.all Q.1)) (ez.mono' (o.all Q.1)) (e0.mono' (o.all Q.1)) eh ei ej ek el em en eo ep eq er) (eu.mono (o.all Q.1)) b5) λe1=>?_;obtain⟨e2,e3,e4,e6,e7⟩:=e1;obtain⟨hc,b6,E⟩:=bd E;refine CR Q (mt (mt (mt mh))) O O sl_34.1 b6 O λhd b7=>ET λhe b8 hg=>?_;obtain⟨e8,b9,E⟩:=bd E;refine JS (r:=AJ) (l:=ak) (i:=ab) (x:=e8) O O (AJ.mk (x:=bb) ⟨e2,e3,e4,e6,e7⟩) b7 b9 RI.id ty_97.1 CE b8 (.tail (.tail (.tail .head))) λhh ca hi=>AU ?_;refine BP (AU ?_);refine WF.nil (λW X J K=>?_);have cb:=ca.sel [1,1,1,1] 1 O;exact⟨(BV (ab+1)),(upd ak ab bb),_,_,J.sub (kp [121,120,0,2,122] O),K,cb,EX,(BY _),E⟩
 refine M1 O (WF.nil (λW X J K=>?_));cases E;exact Jw J O K Jr O EX ⟨_,O,aw⟩
end Go.Proofs.YtibidnaedddfdaaGreat
