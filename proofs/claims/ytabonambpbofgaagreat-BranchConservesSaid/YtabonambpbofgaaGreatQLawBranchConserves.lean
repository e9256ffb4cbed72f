/- The law BranchConserves holds for every input. No conditions. -/
import Derived.Test.YtabonambpbofgaaGreatQPureDiv
import Derived.Test.YtabonambpbofgaaGreatQCore32
namespace Go.Proofs.YtabonambpbofgaaGreat
set_option linter.all false
open Go.ChangeShapes Go.WideShapes Go.ChangeAt Go.RowKit
open Go.Proofs.Tryz
namespace bcons
theorem bcons_ret{S:Nat->Prop}{L:List HP}{h:AV}(hs:St S L h){v0:Value}{x0:AF}(k0:Rd S h Bz v0 x0){v1:Value}{x1:AH}(k1:Rd S h BP v1 x1){v2:Value}{x2:(List BT)}(k2:Sl S h C2 v2 x2)(l0:x1.F.length<=3600000000000):CG prog 7 #[v0,v1,v2] S h (λv S' h'=>v= .bool true/\St S' L h'):=
 Mn hs k0 k1 k2 (Z1) (Pb _ _ l0 _)
theorem opens_9:Ft prog 9 A9.str:=dD Γ underlying9
theorem opens_22:Ft prog 22 (A9.sl A9.str):=H6 Γ underlying22 opens_9 rfl
theorem opens_3:Ft prog 3 AC:=dE Γ underlying3
theorem opens_129:Ft prog 129 CH:=MR underlying129 Γ λ{w cs}(hl:_=2) hf=>by
 match cs,hl with
 |[c0,c1],_=>
  obtain⟨y0,rfl,r0⟩:=oI (c:=c0) (hf 0 _ _ rfl opens_3);obtain⟨y1,rfl,r1⟩:=oI (c:=c1) (hf 1 _ _ rfl opens_3);exact⟨⟨y0,y1⟩,⟨rfl,⟨r0,r1⟩⟩⟩
theorem opens_130:Ft prog 130 (A9.sl CH):=H6 Γ underlying130 opens_129 rfl
theorem opens_29:Ft prog 29 (A9.sl AC):=H6 Γ underlying29 opens_3 rfl
theorem opens_210:Ft prog 210 Kt:=MR underlying210 Γ λ{w cs}(hl:_=2) hf=>by
 match cs,hl with
 |[c0,c1],_=>
  obtain⟨y0,rfl,r0⟩:=oI (c:=c0) (hf 0 _ _ rfl opens_3);obtain⟨y1,rfl,r1⟩:=oI (c:=c1) (hf 1 _ _ rfl opens_3);exact⟨⟨y0,y1⟩,⟨rfl,⟨r0,r1⟩⟩⟩
theorem opens_131:Ft prog 131 (A9.sl Kt):=H6 Γ underlying131 opens_210 rfl
theorem opens_133:Ft prog 133 B4:=MR underlying133 Γ λ{w cs}(hl:_=12) hf=>by
 match cs,hl with
 |[c0,c1,c2,c3,c4,c5,c6,c7,c8,c9,c10,c11],_=>
  obtain⟨y0,rfl,r0⟩:=oT (c:=c0) (hf 0 _ _ rfl opens_9);obtain⟨y1,rfl,r1⟩:=oI (c:=c1) (hf 1 _ _ rfl opens_3);obtain⟨y2,rfl,r2⟩:=oI (c:=c2) (hf 2 _ _ rfl opens_3);obtain⟨y3,rfl,r3⟩:=oI (c:=c3) (hf 3 _ _ rfl opens_3);obtain⟨y4,r4⟩:=oS (c:=c4) (hf 4 _ _ rfl opens_130);obtain⟨y5,r5⟩:=oS (c:=c5) (hf 5 _ _ rfl opens_29);obtain⟨y6,rfl,r6⟩:=oI (c:=c6) (hf 6 _ _ rfl opens_3);obtain⟨y7,rfl,r7⟩:=oI (c:=c7) (hf 7 _ _ rfl opens_3);obtain⟨y8,rfl,r8⟩:=oI (c:=c8) (hf 8 _ _ rfl opens_3);obtain⟨y9,rfl,r9⟩:=oI (c:=c9) (hf 9 _ _ rfl opens_3);obtain⟨y10,rfl,r10⟩:=oI (c:=c10) (hf 10 _ _ rfl opens_3);obtain⟨y11,r11⟩:=oS (c:=c11) (hf 11 _ _ rfl opens_131);exact⟨⟨y0,y1,y2,y3,y4,y5,y6,y7,y8,y9,y10,y11⟩,⟨c4,c5,c11,rfl,r0,r1,r2,r3,r4,r5,r6,r7,r8,r9,r10,r11⟩⟩
theorem opens_23:Ft prog 23 (A9.sl B4):=H6 Γ underlying23 opens_133 rfl
theorem opens_137:Ft prog 137 L3:=MR underlying137 Γ λ{w cs}(hl:_=2) hf=>by
 match cs,hl with
 |[c0,c1],_=>
  obtain⟨y0,r0⟩:=oS (c:=c0) (hf 0 _ _ rfl opens_130);obtain⟨y1,r1⟩:=oS (c:=c1) (hf 1 _ _ rfl opens_130);exact⟨⟨y0,y1⟩,⟨c0,c1,rfl,r0,r1⟩⟩
theorem opens_139:Ft prog 139 CD:=MR underlying139 Γ λ{w cs}(hl:_=18) hf=>by
 match cs,hl with
 |[c0,c1,c2,c3,c4,c5,c6,c7,c8,c9,c10,c11,c12,c13,c14,c15,c16,c17],_=>
  obtain⟨y0,rfl,r0⟩:=oT (c:=c0) (hf 0 _ _ rfl opens_9);obtain⟨y1,rfl,r1⟩:=oI (c:=c1) (hf 1 _ _ rfl opens_3);obtain⟨y2,rfl,r2⟩:=oI (c:=c2) (hf 2 _ _ rfl opens_3);obtain⟨y3,rfl,r3⟩:=oI (c:=c3) (hf 3 _ _ rfl opens_3);obtain⟨y4,r4⟩:=oS (c:=c4) (hf 4 _ _ rfl opens_130);obtain⟨y5,k5⟩:=hf 5 _ L3 rfl opens_137;obtain⟨w5_0,w5_1,e5,r5_0,r5_1⟩:=k5;obtain⟨rfl,rfl⟩:c5=_/\c6=_:=by simpa using(show[c5,c6]=_ from e5)
  obtain⟨y6,rfl,r6⟩:=oI (c:=c7) (hf 6 _ _ rfl opens_3);obtain⟨y7,rfl,r7⟩:=oI (c:=c8) (hf 7 _ _ rfl opens_3);obtain⟨y8,rfl,r8⟩:=oI (c:=c9) (hf 8 _ _ rfl opens_3);obtain⟨y9,rfl,r9⟩:=oI (c:=c10) (hf 9 _ _ rfl opens_3);obtain⟨y10,rfl,r10⟩:=oI (c:=c11) (hf 10 _ _ rfl opens_3);obtain⟨y11,rfl,r11⟩:=oI (c:=c12) (hf 11 _ _ rfl opens_3);obtain⟨y12,rfl,r12⟩:=oI (c:=c13) (hf 12 _ _ rfl opens_3);obtain⟨y13,rfl,r13⟩:=oI (c:=c14) (hf 13 _ _ rfl opens_3);obtain⟨y14,rfl,r14⟩:=oI (c:=c15) (hf 14 _ _ rfl opens_3);obtain⟨y15,rfl,r15⟩:=oI (c:=c16) (hf 15 _ _ rfl opens_3);obtain⟨y16,rfl,r16⟩:=oI (c:=c17) (hf 16 _ _ rfl opens_3);exact⟨⟨y0,y1,y2,y3,y4,y5,y6,y7,y8,y9,y10,y11,y12,y13,y14,y15,y16⟩,⟨c4,c5,c6,rfl,r0,r1,r2,r3,r4,r5_0,r5_1,r6,r7,r8,r9,r10,r11,r12,r13,r14,r15,r16⟩⟩
theorem opens_24:Ft prog 24 (A9.sl CD):=H6 Γ underlying24 opens_139 rfl
theorem opens_215:Ft prog 215 Hj:=MR underlying215 Γ λ{w cs}(hl:_=7) hf=>by
 match cs,hl with
 |[c0,c1,c2,c3,c4,c5,c6],_=>
  obtain⟨y0,rfl,r0⟩:=oT (c:=c0) (hf 0 _ _ rfl opens_9);obtain⟨y1,rfl,r1⟩:=oI (c:=c1) (hf 1 _ _ rfl opens_3);obtain⟨y2,rfl,r2⟩:=oI (c:=c2) (hf 2 _ _ rfl opens_3);obtain⟨y3,rfl,r3⟩:=oI (c:=c3) (hf 3 _ _ rfl opens_3);obtain⟨y4,rfl,r4⟩:=oI (c:=c4) (hf 4 _ _ rfl opens_3);obtain⟨y5,rfl,r5⟩:=oI (c:=c5) (hf 5 _ _ rfl opens_3);obtain⟨y6,rfl,r6⟩:=oI (c:=c6) (hf 6 _ _ rfl opens_3);exact⟨⟨y0,y1,y2,y3,y4,y5,y6⟩,⟨rfl,⟨r0,r1,r2,r3,r4,r5,r6⟩⟩⟩
theorem opens_25:Ft prog 25 (A9.sl Hj):=H6 Γ underlying25 opens_215 rfl
theorem opens_218:Ft prog 218 E7:=MR underlying218 Γ λ{w cs}(hl:_=5) hf=>by
 match cs,hl with
 |[c0,c1,c2,c3,c4],_=>
  obtain⟨y0,rfl,r0⟩:=oT (c:=c0) (hf 0 _ _ rfl opens_9);obtain⟨y1,rfl,r1⟩:=oI (c:=c1) (hf 1 _ _ rfl opens_3);obtain⟨y2,rfl,r2⟩:=oI (c:=c2) (hf 2 _ _ rfl opens_3);obtain⟨y3,rfl,r3⟩:=oI (c:=c3) (hf 3 _ _ rfl opens_3);obtain⟨y4,rfl,r4⟩:=oI (c:=c4) (hf 4 _ _ rfl opens_3);exact⟨⟨y0,y1,y2,y3,y4⟩,⟨rfl,⟨r0,r1,r2,r3,r4⟩⟩⟩
theorem opens_26:Ft prog 26 (A9.sl E7):=H6 Γ underlying26 opens_218 rfl
theorem opens_221:Ft prog 221 HC:=MR underlying221 Γ λ{w cs}(hl:_=7) hf=>by
 match cs,hl with
 |[c0,c1,c2,c3,c4,c5,c6],_=>
  obtain⟨y0,rfl,r0⟩:=oT (c:=c0) (hf 0 _ _ rfl opens_9);obtain⟨y1,rfl,r1⟩:=oI (c:=c1) (hf 1 _ _ rfl opens_3);obtain⟨y2,rfl,r2⟩:=oI (c:=c2) (hf 2 _ _ rfl opens_3);obtain⟨y3,rfl,r3⟩:=oI (c:=c3) (hf 3 _ _ rfl opens_3);obtain⟨y4,rfl,r4⟩:=oI (c:=c4) (hf 4 _ _ rfl opens_3);obtain⟨y5,rfl,r5⟩:=oI (c:=c5) (hf 5 _ _ rfl opens_3);obtain⟨y6,rfl,r6⟩:=oI (c:=c6) (hf 6 _ _ rfl opens_3);exact⟨⟨y0,y1,y2,y3,y4,y5,y6⟩,⟨rfl,⟨r0,r1,r2,r3,r4,r5,r6⟩⟩⟩
theorem opens_27:Ft prog 27 (A9.sl HC):=H6 Γ underlying27 opens_221 rfl
theorem opens_224:Ft prog 224 Db:=MR underlying224 Γ λ{w cs}(hl:_=2) hf=>by
 match cs,hl with
 |[c0,c1],_=>
  obtain⟨y0,rfl,r0⟩:=oT (c:=c0) (hf 0 _ _ rfl opens_9);obtain⟨y1,rfl,r1⟩:=oI (c:=c1) (hf 1 _ _ rfl opens_3);exact⟨⟨y0,y1⟩,⟨rfl,⟨r0,r1⟩⟩⟩
theorem opens_28:Ft prog 28 (A9.sl Db):=H6 Γ underlying28 opens_224 rfl
theorem opens_31:Ft prog 31 Bz:=MR underlying31 Γ λ{w cs}(hl:_=11) hf=>by
 match cs,hl with
 |[c0,c1,c2,c3,c4,c5,c6,c7,c8,c9,c10],_=>
  obtain⟨y0,rfl,r0⟩:=oT (c:=c0) (hf 0 _ _ rfl opens_9);obtain⟨y1,r1⟩:=oS (c:=c1) (hf 1 _ _ rfl opens_22);obtain⟨y2,rfl,r2⟩:=oI (c:=c2) (hf 2 _ _ rfl opens_3);obtain⟨y3,r3⟩:=oS (c:=c3) (hf 3 _ _ rfl opens_23);obtain⟨y4,r4⟩:=oS (c:=c4) (hf 4 _ _ rfl opens_24);obtain⟨y5,r5⟩:=oS (c:=c5) (hf 5 _ _ rfl opens_25);obtain⟨y6,r6⟩:=oS (c:=c6) (hf 6 _ _ rfl opens_26);obtain⟨y7,r7⟩:=oS (c:=c7) (hf 7 _ _ rfl opens_27);obtain⟨y8,r8⟩:=oS (c:=c8) (hf 8 _ _ rfl opens_28);obtain⟨y9,r9⟩:=oS (c:=c9) (hf 9 _ _ rfl opens_29);obtain⟨y10,rfl,r10⟩:=oI (c:=c10) (hf 10 _ _ rfl opens_3);exact⟨⟨y0,y1,y2,y3,y4,y5,y6,y7,y8,y9,y10⟩,⟨c1,c3,c4,c5,c6,c7,c8,c9,rfl,r0,r1,r2,r3,r4,r5,r6,r7,r8,r9,r10⟩⟩
theorem opens_32:Ft prog 32 (A9.sl (A9.sl AC)):=H6 Γ underlying32 opens_29 rfl
theorem opens_103:Ft prog 103 A5:=MR underlying103 Γ λ{w cs}(hl:_=3) hf=>by
 match cs,hl with
 |[c0,c1,c2],_=>
  obtain⟨y0,rfl,r0⟩:=oI (c:=c0) (hf 0 _ _ rfl opens_3);obtain⟨y1,rfl,r1⟩:=oI (c:=c1) (hf 1 _ _ rfl opens_3);obtain⟨y2,r2⟩:=oS (c:=c2) (hf 2 _ _ rfl opens_29);exact⟨⟨y0,y1,y2⟩,⟨c2,rfl,r0,r1,r2⟩⟩
theorem opens_33:Ft prog 33 (A9.sl A5):=H6 Γ underlying33 opens_103 rfl
theorem opens_4:Ft prog 4 A9.bool:=ZE Γ underlying4
theorem opens_107:Ft prog 107 BZ:=MR underlying107 Γ λ{w cs}(hl:_=4) hf=>by
 match cs,hl with
 |[c0,c1,c2,c3],_=>
  obtain⟨y0,rfl,r0⟩:=oI (c:=c0) (hf 0 _ _ rfl opens_3);obtain⟨y1,rfl,r1⟩:=oI (c:=c1) (hf 1 _ _ rfl opens_3);obtain⟨y2,rfl⟩:=oB (c:=c2) (hf 2 _ _ rfl opens_4);obtain⟨y3,rfl⟩:=oB (c:=c3) (hf 3 _ _ rfl opens_4);exact⟨⟨y0,y1,y2,y3⟩,⟨rfl,⟨r0,r1⟩⟩⟩
theorem opens_34:Ft prog 34 (A9.sl BZ):=H6 Γ underlying34 opens_107 rfl
theorem opens_36:Ft prog 36 BP:=MR underlying36 Γ λ{w cs}(hl:_=7) hf=>by
 match cs,hl with
 |[c0,c1,c2,c3,c4,c5,c6],_=>
  obtain⟨y0,rfl,r0⟩:=oI (c:=c0) (hf 0 _ _ rfl opens_3);obtain⟨y1,r1⟩:=oS (c:=c1) (hf 1 _ _ rfl opens_32);obtain⟨y2,r2⟩:=oS (c:=c2) (hf 2 _ _ rfl opens_29);obtain⟨y3,r3⟩:=oS (c:=c3) (hf 3 _ _ rfl opens_33);obtain⟨y4,r4⟩:=oS (c:=c4) (hf 4 _ _ rfl opens_34);obtain⟨y5,r5⟩:=oS (c:=c5) (hf 5 _ _ rfl opens_29);obtain⟨y6,r6⟩:=oS (c:=c6) (hf 6 _ _ rfl opens_29);exact⟨⟨y0,y1,y2,y3,y4,y5,y6⟩,⟨c1,c2,c3,c4,c5,c6,rfl,r0,r1,r2,r3,r4,r5,r6⟩⟩
theorem opens_148:Ft prog 148 Ct:=MR underlying148 Γ λ{w cs}(hl:_=2) hf=>by
 match cs,hl with
 |[c0,c1],_=>
  obtain⟨y0,rfl,r0⟩:=oI (c:=c0) (hf 0 _ _ rfl opens_3);obtain⟨y1,rfl,r1⟩:=oI (c:=c1) (hf 1 _ _ rfl opens_3);exact⟨⟨y0,y1⟩,⟨rfl,⟨r0,r1⟩⟩⟩
theorem opens_45:Ft prog 45 (A9.sl Ct):=H6 Γ underlying45 opens_148 rfl
theorem opens_153:Ft prog 153 Fj:=MR underlying153 Γ λ{w cs}(hl:_=2) hf=>by
 match cs,hl with
 |[c0,c1],_=>
  obtain⟨y0,rfl,r0⟩:=oI (c:=c0) (hf 0 _ _ rfl opens_3);obtain⟨y1,rfl,r1⟩:=oI (c:=c1) (hf 1 _ _ rfl opens_3);exact⟨⟨y0,y1⟩,⟨rfl,⟨r0,r1⟩⟩⟩
theorem opens_46:Ft prog 46 (A9.sl Fj):=H6 Γ underlying46 opens_153 rfl
theorem opens_158:Ft prog 158 DU:=MR underlying158 Γ λ{w cs}(hl:_=4) hf=>by
 match cs,hl with
 |[c0,c1,c2,c3],_=>
  obtain⟨y0,rfl,r0⟩:=oI (c:=c0) (hf 0 _ _ rfl opens_3);obtain⟨y1,rfl,r1⟩:=oI (c:=c1) (hf 1 _ _ rfl opens_3);obtain⟨y2,rfl,r2⟩:=oI (c:=c2) (hf 2 _ _ rfl opens_3);obtain⟨y3,rfl,r3⟩:=oI (c:=c3) (hf 3 _ _ rfl opens_3);exact⟨⟨y0,y1,y2,y3⟩,⟨rfl,⟨r0,r1,r2,r3⟩⟩⟩
theorem opens_47:Ft prog 47 (A9.sl DU):=H6 Γ underlying47 opens_158 rfl
theorem opens_163:Ft prog 163 Di:=MR underlying163 Γ λ{w cs}(hl:_=4) hf=>by
 match cs,hl with
 |[c0,c1,c2,c3],_=>
  obtain⟨y0,rfl,r0⟩:=oI (c:=c0) (hf 0 _ _ rfl opens_3);obtain⟨y1,rfl,r1⟩:=oI (c:=c1) (hf 1 _ _ rfl opens_3);obtain⟨y2,rfl,r2⟩:=oI (c:=c2) (hf 2 _ _ rfl opens_3);obtain⟨y3,rfl,r3⟩:=oI (c:=c3) (hf 3 _ _ rfl opens_3);exact⟨⟨y0,y1,y2,y3⟩,⟨rfl,⟨r0,r1,r2,r3⟩⟩⟩
theorem opens_48:Ft prog 48 (A9.sl Di):=H6 Γ underlying48 opens_163 rfl
theorem opens_50:Ft prog 50 BJ:=MR underlying50 Γ λ{w cs}(hl:_=5) hf=>by
 match cs,hl with
 |[c0,c1,c2,c3,c4],_=>
  obtain⟨y0,r0⟩:=oS (c:=c0) (hf 0 _ _ rfl opens_29);obtain⟨y1,r1⟩:=oS (c:=c1) (hf 1 _ _ rfl opens_45);obtain⟨y2,r2⟩:=oS (c:=c2) (hf 2 _ _ rfl opens_46);obtain⟨y3,r3⟩:=oS (c:=c3) (hf 3 _ _ rfl opens_47);obtain⟨y4,r4⟩:=oS (c:=c4) (hf 4 _ _ rfl opens_48);exact⟨⟨y0,y1,y2,y3,y4⟩,⟨c0,c1,c2,c3,c4,rfl,r0,r1,r2,r3,r4⟩⟩
theorem opens_52:Ft prog 52 C2:=MR underlying52 Γ λ{w cs}(hl:_=9) hf=>by
 match cs,hl with
 |[c0,c1,c2,c3,c4,c5,c6,c7,c8],_=>
  obtain⟨y0,rfl,r0⟩:=oI (c:=c0) (hf 0 _ _ rfl opens_3);obtain⟨y1,rfl,r1⟩:=oI (c:=c1) (hf 1 _ _ rfl opens_3);obtain⟨y2,rfl,r2⟩:=oI (c:=c2) (hf 2 _ _ rfl opens_3);obtain⟨y3,k3⟩:=hf 3 _ BJ rfl opens_50;obtain⟨w3_0,w3_1,w3_2,w3_3,w3_4,e3,r3_0,r3_1,r3_2,r3_3,r3_4⟩:=k3;obtain⟨rfl,rfl,rfl,rfl,rfl⟩:c3=_/\c4=_/\c5=_/\c6=_/\c7=_:=by simpa using(show[c3,c4,c5,c6,c7]=_ from e3)
  obtain⟨y4,r4⟩:=oS (c:=c8) (hf 4 _ _ rfl opens_29);exact⟨⟨y0,y1,y2,y3,y4⟩,⟨c3,c4,c5,c6,c7,c8,rfl,r0,r1,r2,r3_0,r3_1,r3_2,r3_3,r3_4,r4⟩⟩
theorem opens_37:Ft prog 37 (A9.sl C2):=H6 Γ underlying37 opens_52 rfl
set_option maxRecDepth 100000 in
theorem bcons_holds_lifted(os:Os)(started:os.Started)(H:Type)(enc:TypeId×Value->H):
  ReturnsInHanded {} Tryz.checked os 7 .any (Rows.branchConservesSpec.pre6 enc prog Tryz.f7 Rows.branchConservesRow.domain false) (Rows.branchConservesSpec.post enc prog Tryz.f7 false true false false):=by
 refine returnsInHanded_of_change_sized (C:=Tryz.checked) Γ started Γ func7
  (ChangeSpec.witness6 (enc:=enc) (C:=Tryz.checked) false ⟨#[],#[.agg #[.string ByteArray.empty,.slice none 0 0,.int .i64 0,.slice none 0 0,.slice none 0 0,.slice none 0 0,.slice none 0 0,.slice none 0 0,.slice none 0 0,.slice none 0 0,.int .i64 0],.agg #[.int .i64 0,.slice none 0 0,.slice none 0 0,.slice none 0 0,.slice none 0 0,.slice none 0 0,.slice none 0 0],.slice none 0 0],[]⟩ 8 Γ Γ Γ Γ) ?_
 intro W base args ds gs before hval0 hW hcnd hsz _;have hval:∀(j:Nat) t v,Tryz.f7.params[j]? =some t->args[j]? =some v->Value.okWide prog W .any base t v:=hval0;have hW':=hW;obtain⟨p,q,hA0,hV,rfl,hfz,hnd⟩:=hW;have hA:DataW.TrodAll enc prog W 0 (λ_=>true) true Tryz.f7.params.toList args.toList ds p:=hA0;rw[params7]at hA hval hsz;obtain⟨v0,vs0,d0,ds0,p0,q0,ha0,rfl,rfl,h0,r0⟩:=trodAll_cons hA;obtain⟨v1,vs1,d1,ds1,p1,q1,rfl,rfl,rfl,h1,r1⟩:=trodAll_cons r0;obtain⟨v2,vs2,d2,ds2,p2,q2,rfl,rfl,rfl,h2,r2⟩:=trodAll_cons r1;obtain⟨rfl,rfl,rfl⟩:=trodAll_nil r2;obtain rfl:args= #[v0,v1,v2]:=by cases args;simp_all
 obtain⟨rfl,rfl⟩:=trodVars_none hV;obtain⟨x0,k0⟩:=mQ opens_31 rfl underlying31 (hval 0 31 v0 rfl rfl) h0;obtain⟨x1,k1⟩:=mQ opens_36 rfl underlying36 (hval 1 36 v1 rfl rfl) h1;obtain⟨x2,k2⟩:=qR opens_37 rfl rfl (jN underlying37 (hval 2 37 v2 rfl rfl)) h2;have hsw:=λq hq=>Aie (Agz.1 hsz q hq);have hR:=reachBytes_lt;have lb0:x1.F.length<=3600000000000:=by
  obtain⟨w0,w1,w2,w3,w4,w5,ev,hex⟩:=BP.ex k1;subst ev;have hb:=mR underlying36 h1 (λq hq=>hsw q (WQ (j:=1) rfl rfl q hq)) (j:=3) rfl underlying33 Γ rfl hex.2.2.2.1;rw[show prog.bytesOf 103=40 from Γ]at hb;omega
 refine(dJ (bcons_ret (St.all W.heap) k0 k1 k2.sl lb0)).mono λe W' ⟨he,hb⟩=>⟨_,he,?_⟩
 exact kC (tb:=4) Γ Γ hW' Γ underlying4 rfl rfl rfl rfl hb
theorem bcons_holds:Rows.BranchConservesSaid:=
 OpenClaim.holds_of_wide 7 Tryz.f7 rfl rfl rfl rfl rfl rfl rfl ⟨rfl,rfl,rfl,rfl,rfl⟩ rfl rfl rfl rfl rfl bcons_n func7 bcons_j
  (Aie Γ) (by unfold Func.isWrapper;first|(rw[Agp (by decide +kernel)];kernel_rfl)|(rw[Agn (by decide +kernel)];exact⟨rfl,rfl⟩))
  (λos started H enc _=>bcons_holds_lifted os started H enc)
end bcons
end Go.Proofs.YtabonambpbofgaaGreat
