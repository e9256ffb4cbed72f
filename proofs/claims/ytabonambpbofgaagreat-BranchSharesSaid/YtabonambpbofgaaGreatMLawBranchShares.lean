/- The law BranchShares holds for every input. No conditions. -/
import Derived.Test.YtabonambpbofgaaGreatMWalk18
import Derived.Test.YtabonambpbofgaaGreatMCore32
namespace Go.Proofs.YtabonambpbofgaaGreat
set_option linter.all false
open Go.ChangeShapes Go.WideShapes Go.ChangeAt Go.RowKit
open Go.Proofs.Tryz
namespace bshares
theorem bshares_ret {S:Nat→Prop}{L:List HP}{h:AO}(hs:St S L h) {v0:Value}{x0:AF}(k0:Rd S h BZ v0 x0) {v1:Value}{x1:AN}(k1:Rd S h B3 v1 x1) {v2:Value}{x2:(List BJ)}(k2:Sl S h DL v2 x2) (x3:Int) (k3:AA x3) (l0:x1.I.length≤3600000000000):CJ prog 3 #[v0,v1,v2,.int .i64 x3] S h (λv S' h'=>v= .bool true∧St S' L h'):=
 MC hs k0 k1 k2 k3 (Xe) (P4 _ _ l0 _ _)
theorem opens_9:FL prog 9 A5.str:=ZA (by kernel_rfl) underlying9
theorem opens_22:FL prog 22 (A5.sl A5.str):=HT (by kernel_rfl) underlying22 opens_9 rfl
theorem opens_3:FL prog 3 AB:=ZC (by kernel_rfl) underlying3
theorem opens_129:FL prog 129 CA:=K1 underlying129 (by kernel_rfl) λ{w cs} (hl:_=2) hf=>by
 match cs,hl with
 |[c0,c1],_=>
  obtain⟨y0,rfl,r0⟩:=oI (c:=c0) (hf 0 _ _ rfl opens_3);obtain⟨y1,rfl,r1⟩:=oI (c:=c1) (hf 1 _ _ rfl opens_3);exact⟨⟨y0,y1⟩,⟨rfl,⟨r0,r1⟩⟩⟩
theorem opens_130:FL prog 130 (A5.sl CA):=HT (by kernel_rfl) underlying130 opens_129 rfl
theorem opens_29:FL prog 29 (A5.sl AB):=HT (by kernel_rfl) underlying29 opens_3 rfl
theorem opens_210:FL prog 210 Jt:=K1 underlying210 (by kernel_rfl) λ{w cs} (hl:_=2) hf=>by
 match cs,hl with
 |[c0,c1],_=>
  obtain⟨y0,rfl,r0⟩:=oI (c:=c0) (hf 0 _ _ rfl opens_3);obtain⟨y1,rfl,r1⟩:=oI (c:=c1) (hf 1 _ _ rfl opens_3);exact⟨⟨y0,y1⟩,⟨rfl,⟨r0,r1⟩⟩⟩
theorem opens_131:FL prog 131 (A5.sl Jt):=HT (by kernel_rfl) underlying131 opens_210 rfl
theorem opens_133:FL prog 133 BY:=K1 underlying133 (by kernel_rfl) λ{w cs} (hl:_=12) hf=>by
 match cs,hl with
 |[c0,c1,c2,c3,c4,c5,c6,c7,c8,c9,c10,c11],_=>
  obtain⟨y0,rfl,r0⟩:=oT (c:=c0) (hf 0 _ _ rfl opens_9);obtain⟨y1,rfl,r1⟩:=oI (c:=c1) (hf 1 _ _ rfl opens_3);obtain⟨y2,rfl,r2⟩:=oI (c:=c2) (hf 2 _ _ rfl opens_3);obtain⟨y3,rfl,r3⟩:=oI (c:=c3) (hf 3 _ _ rfl opens_3);obtain⟨y4,r4⟩:=oS (c:=c4) (hf 4 _ _ rfl opens_130);obtain⟨y5,r5⟩:=oS (c:=c5) (hf 5 _ _ rfl opens_29);obtain⟨y6,rfl,r6⟩:=oI (c:=c6) (hf 6 _ _ rfl opens_3);obtain⟨y7,rfl,r7⟩:=oI (c:=c7) (hf 7 _ _ rfl opens_3);obtain⟨y8,rfl,r8⟩:=oI (c:=c8) (hf 8 _ _ rfl opens_3);obtain⟨y9,rfl,r9⟩:=oI (c:=c9) (hf 9 _ _ rfl opens_3);obtain⟨y10,rfl,r10⟩:=oI (c:=c10) (hf 10 _ _ rfl opens_3);obtain⟨y11,r11⟩:=oS (c:=c11) (hf 11 _ _ rfl opens_131);exact⟨⟨y0,y1,y2,y3,y4,y5,y6,y7,y8,y9,y10,y11⟩,⟨c4,c5,c11,rfl,r0,r1,r2,r3,r4,r5,r6,r7,r8,r9,r10,r11⟩⟩
theorem opens_23:FL prog 23 (A5.sl BY):=HT (by kernel_rfl) underlying23 opens_133 rfl
theorem opens_137:FL prog 137 Kp:=K1 underlying137 (by kernel_rfl) λ{w cs} (hl:_=2) hf=>by
 match cs,hl with
 |[c0,c1],_=>
  obtain⟨y0,r0⟩:=oS (c:=c0) (hf 0 _ _ rfl opens_130);obtain⟨y1,r1⟩:=oS (c:=c1) (hf 1 _ _ rfl opens_130);exact⟨⟨y0,y1⟩,⟨c0,c1,rfl,r0,r1⟩⟩
theorem opens_139:FL prog 139 B8:=K1 underlying139 (by kernel_rfl) λ{w cs} (hl:_=18) hf=>by
 match cs,hl with
 |[c0,c1,c2,c3,c4,c5,c6,c7,c8,c9,c10,c11,c12,c13,c14,c15,c16,c17],_=>
  obtain⟨y0,rfl,r0⟩:=oT (c:=c0) (hf 0 _ _ rfl opens_9);obtain⟨y1,rfl,r1⟩:=oI (c:=c1) (hf 1 _ _ rfl opens_3);obtain⟨y2,rfl,r2⟩:=oI (c:=c2) (hf 2 _ _ rfl opens_3);obtain⟨y3,rfl,r3⟩:=oI (c:=c3) (hf 3 _ _ rfl opens_3);obtain⟨y4,r4⟩:=oS (c:=c4) (hf 4 _ _ rfl opens_130);obtain⟨y5,k5⟩:=hf 5 _ Kp rfl opens_137;obtain⟨w5_0,w5_1,e5,r5_0,r5_1⟩:=k5;obtain⟨rfl,rfl⟩:c5=_∧c6=_:=by simpa using (show[c5,c6]=_ from e5)
  obtain⟨y6,rfl,r6⟩:=oI (c:=c7) (hf 6 _ _ rfl opens_3);obtain⟨y7,rfl,r7⟩:=oI (c:=c8) (hf 7 _ _ rfl opens_3);obtain⟨y8,rfl,r8⟩:=oI (c:=c9) (hf 8 _ _ rfl opens_3);obtain⟨y9,rfl,r9⟩:=oI (c:=c10) (hf 9 _ _ rfl opens_3);obtain⟨y10,rfl,r10⟩:=oI (c:=c11) (hf 10 _ _ rfl opens_3);obtain⟨y11,rfl,r11⟩:=oI (c:=c12) (hf 11 _ _ rfl opens_3);obtain⟨y12,rfl,r12⟩:=oI (c:=c13) (hf 12 _ _ rfl opens_3);obtain⟨y13,rfl,r13⟩:=oI (c:=c14) (hf 13 _ _ rfl opens_3);obtain⟨y14,rfl,r14⟩:=oI (c:=c15) (hf 14 _ _ rfl opens_3);obtain⟨y15,rfl,r15⟩:=oI (c:=c16) (hf 15 _ _ rfl opens_3);obtain⟨y16,rfl,r16⟩:=oI (c:=c17) (hf 16 _ _ rfl opens_3);exact⟨⟨y0,y1,y2,y3,y4,y5,y6,y7,y8,y9,y10,y11,y12,y13,y14,y15,y16⟩,⟨c4,c5,c6,rfl,r0,r1,r2,r3,r4,r5_0,r5_1,r6,r7,r8,r9,r10,r11,r12,r13,r14,r15,r16⟩⟩
theorem opens_24:FL prog 24 (A5.sl B8):=HT (by kernel_rfl) underlying24 opens_139 rfl
theorem opens_215:FL prog 215 G7:=K1 underlying215 (by kernel_rfl) λ{w cs} (hl:_=7) hf=>by
 match cs,hl with
 |[c0,c1,c2,c3,c4,c5,c6],_=>
  obtain⟨y0,rfl,r0⟩:=oT (c:=c0) (hf 0 _ _ rfl opens_9);obtain⟨y1,rfl,r1⟩:=oI (c:=c1) (hf 1 _ _ rfl opens_3);obtain⟨y2,rfl,r2⟩:=oI (c:=c2) (hf 2 _ _ rfl opens_3);obtain⟨y3,rfl,r3⟩:=oI (c:=c3) (hf 3 _ _ rfl opens_3);obtain⟨y4,rfl,r4⟩:=oI (c:=c4) (hf 4 _ _ rfl opens_3);obtain⟨y5,rfl,r5⟩:=oI (c:=c5) (hf 5 _ _ rfl opens_3);obtain⟨y6,rfl,r6⟩:=oI (c:=c6) (hf 6 _ _ rfl opens_3);exact⟨⟨y0,y1,y2,y3,y4,y5,y6⟩,⟨rfl,⟨r0,r1,r2,r3,r4,r5,r6⟩⟩⟩
theorem opens_25:FL prog 25 (A5.sl G7):=HT (by kernel_rfl) underlying25 opens_215 rfl
theorem opens_218:FL prog 218 Eg:=K1 underlying218 (by kernel_rfl) λ{w cs} (hl:_=5) hf=>by
 match cs,hl with
 |[c0,c1,c2,c3,c4],_=>
  obtain⟨y0,rfl,r0⟩:=oT (c:=c0) (hf 0 _ _ rfl opens_9);obtain⟨y1,rfl,r1⟩:=oI (c:=c1) (hf 1 _ _ rfl opens_3);obtain⟨y2,rfl,r2⟩:=oI (c:=c2) (hf 2 _ _ rfl opens_3);obtain⟨y3,rfl,r3⟩:=oI (c:=c3) (hf 3 _ _ rfl opens_3);obtain⟨y4,rfl,r4⟩:=oI (c:=c4) (hf 4 _ _ rfl opens_3);exact⟨⟨y0,y1,y2,y3,y4⟩,⟨rfl,⟨r0,r1,r2,r3,r4⟩⟩⟩
theorem opens_26:FL prog 26 (A5.sl Eg):=HT (by kernel_rfl) underlying26 opens_218 rfl
theorem opens_221:FL prog 221 Gr:=K1 underlying221 (by kernel_rfl) λ{w cs} (hl:_=7) hf=>by
 match cs,hl with
 |[c0,c1,c2,c3,c4,c5,c6],_=>
  obtain⟨y0,rfl,r0⟩:=oT (c:=c0) (hf 0 _ _ rfl opens_9);obtain⟨y1,rfl,r1⟩:=oI (c:=c1) (hf 1 _ _ rfl opens_3);obtain⟨y2,rfl,r2⟩:=oI (c:=c2) (hf 2 _ _ rfl opens_3);obtain⟨y3,rfl,r3⟩:=oI (c:=c3) (hf 3 _ _ rfl opens_3);obtain⟨y4,rfl,r4⟩:=oI (c:=c4) (hf 4 _ _ rfl opens_3);obtain⟨y5,rfl,r5⟩:=oI (c:=c5) (hf 5 _ _ rfl opens_3);obtain⟨y6,rfl,r6⟩:=oI (c:=c6) (hf 6 _ _ rfl opens_3);exact⟨⟨y0,y1,y2,y3,y4,y5,y6⟩,⟨rfl,⟨r0,r1,r2,r3,r4,r5,r6⟩⟩⟩
theorem opens_27:FL prog 27 (A5.sl Gr):=HT (by kernel_rfl) underlying27 opens_221 rfl
theorem opens_224:FL prog 224 DM:=K1 underlying224 (by kernel_rfl) λ{w cs} (hl:_=2) hf=>by
 match cs,hl with
 |[c0,c1],_=>
  obtain⟨y0,rfl,r0⟩:=oT (c:=c0) (hf 0 _ _ rfl opens_9);obtain⟨y1,rfl,r1⟩:=oI (c:=c1) (hf 1 _ _ rfl opens_3);exact⟨⟨y0,y1⟩,⟨rfl,⟨r0,r1⟩⟩⟩
theorem opens_28:FL prog 28 (A5.sl DM):=HT (by kernel_rfl) underlying28 opens_224 rfl
theorem opens_31:FL prog 31 BZ:=K1 underlying31 (by kernel_rfl) λ{w cs} (hl:_=11) hf=>by
 match cs,hl with
 |[c0,c1,c2,c3,c4,c5,c6,c7,c8,c9,c10],_=>
  obtain⟨y0,rfl,r0⟩:=oT (c:=c0) (hf 0 _ _ rfl opens_9);obtain⟨y1,r1⟩:=oS (c:=c1) (hf 1 _ _ rfl opens_22);obtain⟨y2,rfl,r2⟩:=oI (c:=c2) (hf 2 _ _ rfl opens_3);obtain⟨y3,r3⟩:=oS (c:=c3) (hf 3 _ _ rfl opens_23);obtain⟨y4,r4⟩:=oS (c:=c4) (hf 4 _ _ rfl opens_24);obtain⟨y5,r5⟩:=oS (c:=c5) (hf 5 _ _ rfl opens_25);obtain⟨y6,r6⟩:=oS (c:=c6) (hf 6 _ _ rfl opens_26);obtain⟨y7,r7⟩:=oS (c:=c7) (hf 7 _ _ rfl opens_27);obtain⟨y8,r8⟩:=oS (c:=c8) (hf 8 _ _ rfl opens_28);obtain⟨y9,r9⟩:=oS (c:=c9) (hf 9 _ _ rfl opens_29);obtain⟨y10,rfl,r10⟩:=oI (c:=c10) (hf 10 _ _ rfl opens_3);exact⟨⟨y0,y1,y2,y3,y4,y5,y6,y7,y8,y9,y10⟩,⟨c1,c3,c4,c5,c6,c7,c8,c9,rfl,r0,r1,r2,r3,r4,r5,r6,r7,r8,r9,r10⟩⟩
theorem opens_32:FL prog 32 (A5.sl (A5.sl AB)):=HT (by kernel_rfl) underlying32 opens_29 rfl
theorem opens_103:FL prog 103 AX:=K1 underlying103 (by kernel_rfl) λ{w cs} (hl:_=3) hf=>by
 match cs,hl with
 |[c0,c1,c2],_=>
  obtain⟨y0,rfl,r0⟩:=oI (c:=c0) (hf 0 _ _ rfl opens_3);obtain⟨y1,rfl,r1⟩:=oI (c:=c1) (hf 1 _ _ rfl opens_3);obtain⟨y2,r2⟩:=oS (c:=c2) (hf 2 _ _ rfl opens_29);exact⟨⟨y0,y1,y2⟩,⟨c2,rfl,r0,r1,r2⟩⟩
theorem opens_33:FL prog 33 (A5.sl AX):=HT (by kernel_rfl) underlying33 opens_103 rfl
theorem opens_4:FL prog 4 A5.bool:=Wr (by kernel_rfl) underlying4
theorem opens_107:FL prog 107 BQ:=K1 underlying107 (by kernel_rfl) λ{w cs} (hl:_=4) hf=>by
 match cs,hl with
 |[c0,c1,c2,c3],_=>
  obtain⟨y0,rfl,r0⟩:=oI (c:=c0) (hf 0 _ _ rfl opens_3);obtain⟨y1,rfl,r1⟩:=oI (c:=c1) (hf 1 _ _ rfl opens_3);obtain⟨y2,rfl⟩:=oB (c:=c2) (hf 2 _ _ rfl opens_4);obtain⟨y3,rfl⟩:=oB (c:=c3) (hf 3 _ _ rfl opens_4);exact⟨⟨y0,y1,y2,y3⟩,⟨rfl,⟨r0,r1⟩⟩⟩
theorem opens_34:FL prog 34 (A5.sl BQ):=HT (by kernel_rfl) underlying34 opens_107 rfl
theorem opens_36:FL prog 36 B3:=K1 underlying36 (by kernel_rfl) λ{w cs} (hl:_=7) hf=>by
 match cs,hl with
 |[c0,c1,c2,c3,c4,c5,c6],_=>
  obtain⟨y0,rfl,r0⟩:=oI (c:=c0) (hf 0 _ _ rfl opens_3);obtain⟨y1,r1⟩:=oS (c:=c1) (hf 1 _ _ rfl opens_32);obtain⟨y2,r2⟩:=oS (c:=c2) (hf 2 _ _ rfl opens_29);obtain⟨y3,r3⟩:=oS (c:=c3) (hf 3 _ _ rfl opens_33);obtain⟨y4,r4⟩:=oS (c:=c4) (hf 4 _ _ rfl opens_34);obtain⟨y5,r5⟩:=oS (c:=c5) (hf 5 _ _ rfl opens_29);obtain⟨y6,r6⟩:=oS (c:=c6) (hf 6 _ _ rfl opens_29);exact⟨⟨y0,y1,y2,y3,y4,y5,y6⟩,⟨c1,c2,c3,c4,c5,c6,rfl,r0,r1,r2,r3,r4,r5,r6⟩⟩
theorem opens_148:FL prog 148 Cm:=K1 underlying148 (by kernel_rfl) λ{w cs} (hl:_=2) hf=>by
 match cs,hl with
 |[c0,c1],_=>
  obtain⟨y0,rfl,r0⟩:=oI (c:=c0) (hf 0 _ _ rfl opens_3);obtain⟨y1,rfl,r1⟩:=oI (c:=c1) (hf 1 _ _ rfl opens_3);exact⟨⟨y0,y1⟩,⟨rfl,⟨r0,r1⟩⟩⟩
theorem opens_45:FL prog 45 (A5.sl Cm):=HT (by kernel_rfl) underlying45 opens_148 rfl
theorem opens_153:FL prog 153 FD:=K1 underlying153 (by kernel_rfl) λ{w cs} (hl:_=2) hf=>by
 match cs,hl with
 |[c0,c1],_=>
  obtain⟨y0,rfl,r0⟩:=oI (c:=c0) (hf 0 _ _ rfl opens_3);obtain⟨y1,rfl,r1⟩:=oI (c:=c1) (hf 1 _ _ rfl opens_3);exact⟨⟨y0,y1⟩,⟨rfl,⟨r0,r1⟩⟩⟩
theorem opens_46:FL prog 46 (A5.sl FD):=HT (by kernel_rfl) underlying46 opens_153 rfl
theorem opens_158:FL prog 158 DE:=K1 underlying158 (by kernel_rfl) λ{w cs} (hl:_=4) hf=>by
 match cs,hl with
 |[c0,c1,c2,c3],_=>
  obtain⟨y0,rfl,r0⟩:=oI (c:=c0) (hf 0 _ _ rfl opens_3);obtain⟨y1,rfl,r1⟩:=oI (c:=c1) (hf 1 _ _ rfl opens_3);obtain⟨y2,rfl,r2⟩:=oI (c:=c2) (hf 2 _ _ rfl opens_3);obtain⟨y3,rfl,r3⟩:=oI (c:=c3) (hf 3 _ _ rfl opens_3);exact⟨⟨y0,y1,y2,y3⟩,⟨rfl,⟨r0,r1,r2,r3⟩⟩⟩
theorem opens_47:FL prog 47 (A5.sl DE):=HT (by kernel_rfl) underlying47 opens_158 rfl
theorem opens_163:FL prog 163 Da:=K1 underlying163 (by kernel_rfl) λ{w cs} (hl:_=4) hf=>by
 match cs,hl with
 |[c0,c1,c2,c3],_=>
  obtain⟨y0,rfl,r0⟩:=oI (c:=c0) (hf 0 _ _ rfl opens_3);obtain⟨y1,rfl,r1⟩:=oI (c:=c1) (hf 1 _ _ rfl opens_3);obtain⟨y2,rfl,r2⟩:=oI (c:=c2) (hf 2 _ _ rfl opens_3);obtain⟨y3,rfl,r3⟩:=oI (c:=c3) (hf 3 _ _ rfl opens_3);exact⟨⟨y0,y1,y2,y3⟩,⟨rfl,⟨r0,r1,r2,r3⟩⟩⟩
theorem opens_48:FL prog 48 (A5.sl Da):=HT (by kernel_rfl) underlying48 opens_163 rfl
theorem opens_50:FL prog 50 CZ:=K1 underlying50 (by kernel_rfl) λ{w cs} (hl:_=5) hf=>by
 match cs,hl with
 |[c0,c1,c2,c3,c4],_=>
  obtain⟨y0,r0⟩:=oS (c:=c0) (hf 0 _ _ rfl opens_29);obtain⟨y1,r1⟩:=oS (c:=c1) (hf 1 _ _ rfl opens_45);obtain⟨y2,r2⟩:=oS (c:=c2) (hf 2 _ _ rfl opens_46);obtain⟨y3,r3⟩:=oS (c:=c3) (hf 3 _ _ rfl opens_47);obtain⟨y4,r4⟩:=oS (c:=c4) (hf 4 _ _ rfl opens_48);exact⟨⟨y0,y1,y2,y3,y4⟩,⟨c0,c1,c2,c3,c4,rfl,r0,r1,r2,r3,r4⟩⟩
theorem opens_52:FL prog 52 DL:=K1 underlying52 (by kernel_rfl) λ{w cs} (hl:_=9) hf=>by
 match cs,hl with
 |[c0,c1,c2,c3,c4,c5,c6,c7,c8],_=>
  obtain⟨y0,rfl,r0⟩:=oI (c:=c0) (hf 0 _ _ rfl opens_3);obtain⟨y1,rfl,r1⟩:=oI (c:=c1) (hf 1 _ _ rfl opens_3);obtain⟨y2,rfl,r2⟩:=oI (c:=c2) (hf 2 _ _ rfl opens_3);obtain⟨y3,k3⟩:=hf 3 _ CZ rfl opens_50;obtain⟨w3_0,w3_1,w3_2,w3_3,w3_4,e3,r3_0,r3_1,r3_2,r3_3,r3_4⟩:=k3;obtain⟨rfl,rfl,rfl,rfl,rfl⟩:c3=_∧c4=_∧c5=_∧c6=_∧c7=_:=by simpa using (show[c3,c4,c5,c6,c7]=_ from e3)
  obtain⟨y4,r4⟩:=oS (c:=c8) (hf 4 _ _ rfl opens_29);exact⟨⟨y0,y1,y2,y3,y4⟩,⟨c3,c4,c5,c6,c7,c8,rfl,r0,r1,r2,r3_0,r3_1,r3_2,r3_3,r3_4,r4⟩⟩
theorem opens_37:FL prog 37 (A5.sl DL):=HT (by kernel_rfl) underlying37 opens_52 rfl
set_option maxRecDepth 100000 in
theorem bshares_holds_lifted (os:Os) (started:os.Started) (H:Type) (enc:TypeId×Value→H):
  ReturnsInHanded {} Tryz.checked os 3 .any (Rows.branchSharesSpec.pre6 enc prog Tryz.f3 Rows.branchSharesRow.domain false) (Rows.branchSharesSpec.post enc prog Tryz.f3 false true false false):=by
 refine returnsInHanded_of_change_sized (C:=Tryz.checked) (by kernel_rfl) started (by kernel_rfl) func3
  (ChangeSpec.witness6 (enc:=enc) (C:=Tryz.checked) false ⟨#[],#[.agg #[.string ByteArray.empty,.slice none 0 0,.int .i64 0,.slice none 0 0,.slice none 0 0,.slice none 0 0,.slice none 0 0,.slice none 0 0,.slice none 0 0,.slice none 0 0,.int .i64 0],.agg #[.int .i64 0,.slice none 0 0,.slice none 0 0,.slice none 0 0,.slice none 0 0,.slice none 0 0,.slice none 0 0],.slice none 0 0,.int .i64 0],[]⟩ 8 (by kernel_rfl) (by kernel_rfl) (by kernel_rfl) (by kernel_rfl)) ?_
 intro W base args ds gs before hval0 hW hcnd hsz _;have hval:∀(j:Nat) t v,Tryz.f3.params[j]? =some t→args[j]? =some v→Value.okWide prog W .any base t v:=hval0;have hW':=hW;obtain⟨p,q,hA0,hV,rfl,hfz,hnd⟩:=hW;have hA:DataW.TrodAll enc prog W 0 (λ_=>true) true Tryz.f3.params.toList args.toList ds p:=hA0;rw[params3] at hA hval hsz;obtain⟨v0,vs0,d0,ds0,p0,q0,ha0,rfl,rfl,h0,r0⟩:=trodAll_cons hA;obtain⟨v1,vs1,d1,ds1,p1,q1,rfl,rfl,rfl,h1,r1⟩:=trodAll_cons r0;obtain⟨v2,vs2,d2,ds2,p2,q2,rfl,rfl,rfl,h2,r2⟩:=trodAll_cons r1;obtain⟨v3,vs3,d3,ds3,p3,q3,rfl,rfl,rfl,h3,r3⟩:=trodAll_cons r2;obtain⟨rfl,rfl,rfl⟩:=trodAll_nil r3;obtain rfl:args= #[v0,v1,v2,v3]:=by cases args;simp_all
 obtain⟨rfl,rfl⟩:=trodVars_none hV;obtain⟨x0,k0⟩:=eR opens_31 rfl underlying31 (hval 0 31 v0 rfl rfl) h0;obtain⟨x1,k1⟩:=eR opens_36 rfl underlying36 (hval 1 36 v1 rfl rfl) h1;obtain⟨x2,k2⟩:=YJ opens_37 rfl rfl (bU underlying37 (hval 2 37 v2 rfl rfl)) h2;obtain⟨x3,k3⟩:=YJ opens_3 rfl rfl (pC underlying3 (hval 3 3 v3 rfl rfl)) h3;obtain⟨rfl,ki3⟩:=k3.int;have hsw:=λq hq=>Acf (Aa0.1 hsz q hq);have hR:=reachBytes_lt;have lb0:x1.I.length≤3600000000000:=by
  obtain⟨w0,w1,w2,w3,w4,w5,ev,hex⟩:=B3.ex k1;subst ev;have hb:=eT underlying36 h1 (λq hq=>hsw q (UL (j:=1) rfl rfl q hq)) (j:=3) rfl underlying33 (by kernel_rfl) rfl hex.2.2.2.1;rw[show prog.bytesOf 103=40 by kernel_rfl] at hb;omega
 refine(ZG (bshares_ret (St.all W.heap) k0 k1 k2.sl x3 ki3 lb0)).mono λe W' ⟨he,hb⟩=>⟨_,he,?_⟩
 exact cF (tb:=4) (by kernel_rfl) (by kernel_rfl) hW' (by kernel_rfl) underlying4 rfl rfl rfl rfl hb
theorem bshares_holds:Rows.BranchSharesSaid:=
 OpenClaim.holds_of_wide 3 Tryz.f3 rfl rfl rfl rfl rfl rfl rfl ⟨rfl,rfl,rfl,rfl,rfl⟩ rfl rfl rfl rfl rfl bshares_n func3 bshares_j
  (Acf (by kernel_rfl)) (by unfold Func.isWrapper;first|(rw [Aav (by decide +kernel)];kernel_rfl)|(rw [Aas (by decide +kernel)];exact⟨rfl,rfl⟩))
  (λos started H enc _=>bshares_holds_lifted os started H enc)
end bshares
end Go.Proofs.YtabonambpbofgaaGreat
