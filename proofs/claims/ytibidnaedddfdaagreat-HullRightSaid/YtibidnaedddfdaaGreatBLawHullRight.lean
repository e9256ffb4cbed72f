/- The law HullRight holds for every input: within its bounds, the hull that hull.Step makes of a right hull is right. Conditions: none. -/
import Derived.Test.YtibidnaedddfdaaGreatBWalk12
import Derived.Test.YtibidnaedddfdaaGreatBPureHLaw
import Derived.Test.YtibidnaedddfdaaGreatBCore9
namespace Go.Proofs.YtibidnaedddfdaaGreat
open Go.ChangeShapes Go.WideShapes Go.ChangeAt Go.RowKit
set_option linter.unusedVariables false
set_option linter.unusedSimpArgs false
namespace hright
theorem hright_ret {S:Nat→Prop}{L:List HP}{h:Ac}(hs:St S L h) {v0:Value}{x0:AK}(k0:Rd S h BG v0 x0) {v1:Value}{x1:Al}(k1:Rd S h CE v1 x1) {v2:Value}{x2:C7}(k2:Rd S h E0 v2 x2) {v3:Value}{x3:(List Bool)}(k3:Sl S h AW.bool v3 x3) {v4:Value}{x4:(List AF)}(k4:Sl S h AH v4 x4):Bh Tryz.prog 3 #[v0,v1,v2,v3,v4] S h (λv S' h'=>v= .bool true∧St S' L h'):=
 Ij hs k0 k1 k2 k3 k4 (Oj _ _ _ _ _ (TD k2) (TI k4))
theorem opens_9:DB Tryz.prog 9 AW.str:=SD (by kernel_rfl) Tryz.underlying9
theorem opens_22:DB Tryz.prog 22 (AW.sl AW.str):=EB (by kernel_rfl) Tryz.underlying22 opens_9 rfl
theorem opens_3:DB Tryz.prog 3 AW.int:=SE (by kernel_rfl) Tryz.underlying3
theorem opens_90:DB Tryz.prog 90 BH:=by
 have hc:Tryz.prog.cellsOf 90=2:=by kernel_rfl
 refine⟨hc,λ{H enc w base spare held fuel cs x} h=>?_⟩
 obtain⟨hl,hf⟩:=CH Tryz.underlying90 h
 rw[hc] at hl
 match cs,hl with
 |[c0,c1],_=>
  obtain⟨y0,k0⟩:=hf 0 _ AW.int rfl opens_3
  obtain⟨e0,r0⟩:=k0
  obtain rfl:c0=_:=(List.cons.inj (show[c0]=_ from e0)).1
  obtain⟨y1,k1⟩:=hf 1 _ AW.int rfl opens_3
  obtain⟨e1,r1⟩:=k1
  obtain rfl:c1=_:=(List.cons.inj (show[c1]=_ from e1)).1
  exact⟨⟨y0,y1⟩,⟨rfl,⟨r0,r1⟩⟩⟩
theorem opens_54:DB Tryz.prog 54 (AW.sl BH):=EB (by kernel_rfl) Tryz.underlying54 opens_90 rfl
theorem opens_29:DB Tryz.prog 29 (AW.sl AW.int):=EB (by kernel_rfl) Tryz.underlying29 opens_3 rfl
theorem opens_164:DB Tryz.prog 164 H2:=by
 have hc:Tryz.prog.cellsOf 164=2:=by kernel_rfl
 refine⟨hc,λ{H enc w base spare held fuel cs x} h=>?_⟩
 obtain⟨hl,hf⟩:=CH Tryz.underlying164 h
 rw[hc] at hl
 match cs,hl with
 |[c0,c1],_=>
  obtain⟨y0,k0⟩:=hf 0 _ AW.int rfl opens_3
  obtain⟨e0,r0⟩:=k0
  obtain rfl:c0=_:=(List.cons.inj (show[c0]=_ from e0)).1
  obtain⟨y1,k1⟩:=hf 1 _ AW.int rfl opens_3
  obtain⟨e1,r1⟩:=k1
  obtain rfl:c1=_:=(List.cons.inj (show[c1]=_ from e1)).1
  exact⟨⟨y0,y1⟩,⟨rfl,⟨r0,r1⟩⟩⟩
theorem opens_55:DB Tryz.prog 55 (AW.sl H2):=EB (by kernel_rfl) Tryz.underlying55 opens_164 rfl
theorem opens_57:DB Tryz.prog 57 BF:=by
 have hc:Tryz.prog.cellsOf 57=12:=by kernel_rfl
 refine⟨hc,λ{H enc w base spare held fuel cs x} h=>?_⟩
 obtain⟨hl,hf⟩:=CH Tryz.underlying57 h
 rw[hc] at hl
 match cs,hl with
 |[c0,c1,c2,c3,c4,c5,c6,c7,c8,c9,c10,c11],_=>
  obtain⟨y0,k0⟩:=hf 0 _ AW.str rfl opens_9
  obtain⟨e0,r0⟩:=k0
  obtain rfl:c0=_:=(List.cons.inj (show[c0]=_ from e0)).1
  obtain⟨y1,k1⟩:=hf 1 _ AW.int rfl opens_3
  obtain⟨e1,r1⟩:=k1
  obtain rfl:c1=_:=(List.cons.inj (show[c1]=_ from e1)).1
  obtain⟨y2,k2⟩:=hf 2 _ AW.int rfl opens_3
  obtain⟨e2,r2⟩:=k2
  obtain rfl:c2=_:=(List.cons.inj (show[c2]=_ from e2)).1
  obtain⟨y3,k3⟩:=hf 3 _ AW.int rfl opens_3
  obtain⟨e3,r3⟩:=k3
  obtain rfl:c3=_:=(List.cons.inj (show[c3]=_ from e3)).1
  obtain⟨y4,k4⟩:=hf 4 _ (AW.sl BH) rfl opens_54
  obtain⟨w4,e4,r4⟩:=k4
  obtain rfl:c4=_:=(List.cons.inj (show[c4]=_ from e4)).1
  obtain⟨y5,k5⟩:=hf 5 _ (AW.sl AW.int) rfl opens_29
  obtain⟨w5,e5,r5⟩:=k5
  obtain rfl:c5=_:=(List.cons.inj (show[c5]=_ from e5)).1
  obtain⟨y6,k6⟩:=hf 6 _ AW.int rfl opens_3
  obtain⟨e6,r6⟩:=k6
  obtain rfl:c6=_:=(List.cons.inj (show[c6]=_ from e6)).1
  obtain⟨y7,k7⟩:=hf 7 _ AW.int rfl opens_3
  obtain⟨e7,r7⟩:=k7
  obtain rfl:c7=_:=(List.cons.inj (show[c7]=_ from e7)).1
  obtain⟨y8,k8⟩:=hf 8 _ AW.int rfl opens_3
  obtain⟨e8,r8⟩:=k8
  obtain rfl:c8=_:=(List.cons.inj (show[c8]=_ from e8)).1
  obtain⟨y9,k9⟩:=hf 9 _ AW.int rfl opens_3
  obtain⟨e9,r9⟩:=k9
  obtain rfl:c9=_:=(List.cons.inj (show[c9]=_ from e9)).1
  obtain⟨y10,k10⟩:=hf 10 _ AW.int rfl opens_3
  obtain⟨e10,r10⟩:=k10
  obtain rfl:c10=_:=(List.cons.inj (show[c10]=_ from e10)).1
  obtain⟨y11,k11⟩:=hf 11 _ (AW.sl H2) rfl opens_55
  obtain⟨w11,e11,r11⟩:=k11
  obtain rfl:c11=_:=(List.cons.inj (show[c11]=_ from e11)).1
  exact⟨⟨y0,y1,y2,y3,y4,y5,y6,y7,y8,y9,y10,y11⟩,⟨c4,c5,c11,rfl,r0,r1,r2,r3,r4,r5,r6,r7,r8,r9,r10,r11⟩⟩
theorem opens_23:DB Tryz.prog 23 (AW.sl BF):=EB (by kernel_rfl) Tryz.underlying23 opens_57 rfl
theorem opens_100:DB Tryz.prog 100 Jb:=by
 have hc:Tryz.prog.cellsOf 100=2:=by kernel_rfl
 refine⟨hc,λ{H enc w base spare held fuel cs x} h=>?_⟩
 obtain⟨hl,hf⟩:=CH Tryz.underlying100 h
 rw[hc] at hl
 match cs,hl with
 |[c0,c1],_=>
  obtain⟨y0,k0⟩:=hf 0 _ (AW.sl BH) rfl opens_54
  obtain⟨w0,e0,r0⟩:=k0
  obtain rfl:c0=_:=(List.cons.inj (show[c0]=_ from e0)).1
  obtain⟨y1,k1⟩:=hf 1 _ (AW.sl BH) rfl opens_54
  obtain⟨w1,e1,r1⟩:=k1
  obtain rfl:c1=_:=(List.cons.inj (show[c1]=_ from e1)).1
  exact⟨⟨y0,y1⟩,⟨c0,c1,rfl,r0,r1⟩⟩
theorem opens_102:DB Tryz.prog 102 A9:=by
 have hc:Tryz.prog.cellsOf 102=18:=by kernel_rfl
 refine⟨hc,λ{H enc w base spare held fuel cs x} h=>?_⟩
 obtain⟨hl,hf⟩:=CH Tryz.underlying102 h
 rw[hc] at hl
 match cs,hl with
 |[c0,c1,c2,c3,c4,c5,c6,c7,c8,c9,c10,c11,c12,c13,c14,c15,c16,c17],_=>
  obtain⟨y0,k0⟩:=hf 0 _ AW.str rfl opens_9
  obtain⟨e0,r0⟩:=k0
  obtain rfl:c0=_:=(List.cons.inj (show[c0]=_ from e0)).1
  obtain⟨y1,k1⟩:=hf 1 _ AW.int rfl opens_3
  obtain⟨e1,r1⟩:=k1
  obtain rfl:c1=_:=(List.cons.inj (show[c1]=_ from e1)).1
  obtain⟨y2,k2⟩:=hf 2 _ AW.int rfl opens_3
  obtain⟨e2,r2⟩:=k2
  obtain rfl:c2=_:=(List.cons.inj (show[c2]=_ from e2)).1
  obtain⟨y3,k3⟩:=hf 3 _ AW.int rfl opens_3
  obtain⟨e3,r3⟩:=k3
  obtain rfl:c3=_:=(List.cons.inj (show[c3]=_ from e3)).1
  obtain⟨y4,k4⟩:=hf 4 _ (AW.sl BH) rfl opens_54
  obtain⟨w4,e4,r4⟩:=k4
  obtain rfl:c4=_:=(List.cons.inj (show[c4]=_ from e4)).1
  obtain⟨y5,k5⟩:=hf 5 _ Jb rfl opens_100
  obtain⟨w5_0,w5_1,e5,r5_0,r5_1⟩:=k5
  obtain⟨rfl,rfl⟩:c5=_∧c6=_:=by simpa using (show[c5,c6]=_ from e5)
  obtain⟨y6,k6⟩:=hf 6 _ AW.int rfl opens_3
  obtain⟨e6,r6⟩:=k6
  obtain rfl:c7=_:=(List.cons.inj (show[c7]=_ from e6)).1
  obtain⟨y7,k7⟩:=hf 7 _ AW.int rfl opens_3
  obtain⟨e7,r7⟩:=k7
  obtain rfl:c8=_:=(List.cons.inj (show[c8]=_ from e7)).1
  obtain⟨y8,k8⟩:=hf 8 _ AW.int rfl opens_3
  obtain⟨e8,r8⟩:=k8
  obtain rfl:c9=_:=(List.cons.inj (show[c9]=_ from e8)).1
  obtain⟨y9,k9⟩:=hf 9 _ AW.int rfl opens_3
  obtain⟨e9,r9⟩:=k9
  obtain rfl:c10=_:=(List.cons.inj (show[c10]=_ from e9)).1
  obtain⟨y10,k10⟩:=hf 10 _ AW.int rfl opens_3
  obtain⟨e10,r10⟩:=k10
  obtain rfl:c11=_:=(List.cons.inj (show[c11]=_ from e10)).1
  obtain⟨y11,k11⟩:=hf 11 _ AW.int rfl opens_3
  obtain⟨e11,r11⟩:=k11
  obtain rfl:c12=_:=(List.cons.inj (show[c12]=_ from e11)).1
  obtain⟨y12,k12⟩:=hf 12 _ AW.int rfl opens_3
  obtain⟨e12,r12⟩:=k12
  obtain rfl:c13=_:=(List.cons.inj (show[c13]=_ from e12)).1
  obtain⟨y13,k13⟩:=hf 13 _ AW.int rfl opens_3
  obtain⟨e13,r13⟩:=k13
  obtain rfl:c14=_:=(List.cons.inj (show[c14]=_ from e13)).1
  obtain⟨y14,k14⟩:=hf 14 _ AW.int rfl opens_3
  obtain⟨e14,r14⟩:=k14
  obtain rfl:c15=_:=(List.cons.inj (show[c15]=_ from e14)).1
  obtain⟨y15,k15⟩:=hf 15 _ AW.int rfl opens_3
  obtain⟨e15,r15⟩:=k15
  obtain rfl:c16=_:=(List.cons.inj (show[c16]=_ from e15)).1
  obtain⟨y16,k16⟩:=hf 16 _ AW.int rfl opens_3
  obtain⟨e16,r16⟩:=k16
  obtain rfl:c17=_:=(List.cons.inj (show[c17]=_ from e16)).1
  exact⟨⟨y0,y1,y2,y3,y4,y5,y6,y7,y8,y9,y10,y11,y12,y13,y14,y15,y16⟩,⟨c4,c5,c6,rfl,r0,r1,r2,r3,r4,r5_0,r5_1,r6,r7,r8,r9,r10,r11,r12,r13,r14,r15,r16⟩⟩
theorem opens_24:DB Tryz.prog 24 (AW.sl A9):=EB (by kernel_rfl) Tryz.underlying24 opens_102 rfl
theorem opens_114:DB Tryz.prog 114 E7:=by
 have hc:Tryz.prog.cellsOf 114=7:=by kernel_rfl
 refine⟨hc,λ{H enc w base spare held fuel cs x} h=>?_⟩
 obtain⟨hl,hf⟩:=CH Tryz.underlying114 h
 rw[hc] at hl
 match cs,hl with
 |[c0,c1,c2,c3,c4,c5,c6],_=>
  obtain⟨y0,k0⟩:=hf 0 _ AW.str rfl opens_9
  obtain⟨e0,r0⟩:=k0
  obtain rfl:c0=_:=(List.cons.inj (show[c0]=_ from e0)).1
  obtain⟨y1,k1⟩:=hf 1 _ AW.int rfl opens_3
  obtain⟨e1,r1⟩:=k1
  obtain rfl:c1=_:=(List.cons.inj (show[c1]=_ from e1)).1
  obtain⟨y2,k2⟩:=hf 2 _ AW.int rfl opens_3
  obtain⟨e2,r2⟩:=k2
  obtain rfl:c2=_:=(List.cons.inj (show[c2]=_ from e2)).1
  obtain⟨y3,k3⟩:=hf 3 _ AW.int rfl opens_3
  obtain⟨e3,r3⟩:=k3
  obtain rfl:c3=_:=(List.cons.inj (show[c3]=_ from e3)).1
  obtain⟨y4,k4⟩:=hf 4 _ AW.int rfl opens_3
  obtain⟨e4,r4⟩:=k4
  obtain rfl:c4=_:=(List.cons.inj (show[c4]=_ from e4)).1
  obtain⟨y5,k5⟩:=hf 5 _ AW.int rfl opens_3
  obtain⟨e5,r5⟩:=k5
  obtain rfl:c5=_:=(List.cons.inj (show[c5]=_ from e5)).1
  obtain⟨y6,k6⟩:=hf 6 _ AW.int rfl opens_3
  obtain⟨e6,r6⟩:=k6
  obtain rfl:c6=_:=(List.cons.inj (show[c6]=_ from e6)).1
  exact⟨⟨y0,y1,y2,y3,y4,y5,y6⟩,⟨rfl,⟨r0,r1,r2,r3,r4,r5,r6⟩⟩⟩
theorem opens_25:DB Tryz.prog 25 (AW.sl E7):=EB (by kernel_rfl) Tryz.underlying25 opens_114 rfl
theorem opens_147:DB Tryz.prog 147 De:=by
 have hc:Tryz.prog.cellsOf 147=5:=by kernel_rfl
 refine⟨hc,λ{H enc w base spare held fuel cs x} h=>?_⟩
 obtain⟨hl,hf⟩:=CH Tryz.underlying147 h
 rw[hc] at hl
 match cs,hl with
 |[c0,c1,c2,c3,c4],_=>
  obtain⟨y0,k0⟩:=hf 0 _ AW.str rfl opens_9
  obtain⟨e0,r0⟩:=k0
  obtain rfl:c0=_:=(List.cons.inj (show[c0]=_ from e0)).1
  obtain⟨y1,k1⟩:=hf 1 _ AW.int rfl opens_3
  obtain⟨e1,r1⟩:=k1
  obtain rfl:c1=_:=(List.cons.inj (show[c1]=_ from e1)).1
  obtain⟨y2,k2⟩:=hf 2 _ AW.int rfl opens_3
  obtain⟨e2,r2⟩:=k2
  obtain rfl:c2=_:=(List.cons.inj (show[c2]=_ from e2)).1
  obtain⟨y3,k3⟩:=hf 3 _ AW.int rfl opens_3
  obtain⟨e3,r3⟩:=k3
  obtain rfl:c3=_:=(List.cons.inj (show[c3]=_ from e3)).1
  obtain⟨y4,k4⟩:=hf 4 _ AW.int rfl opens_3
  obtain⟨e4,r4⟩:=k4
  obtain rfl:c4=_:=(List.cons.inj (show[c4]=_ from e4)).1
  exact⟨⟨y0,y1,y2,y3,y4⟩,⟨rfl,⟨r0,r1,r2,r3,r4⟩⟩⟩
theorem opens_26:DB Tryz.prog 26 (AW.sl De):=EB (by kernel_rfl) Tryz.underlying26 opens_147 rfl
theorem opens_160:DB Tryz.prog 160 Ex:=by
 have hc:Tryz.prog.cellsOf 160=7:=by kernel_rfl
 refine⟨hc,λ{H enc w base spare held fuel cs x} h=>?_⟩
 obtain⟨hl,hf⟩:=CH Tryz.underlying160 h
 rw[hc] at hl
 match cs,hl with
 |[c0,c1,c2,c3,c4,c5,c6],_=>
  obtain⟨y0,k0⟩:=hf 0 _ AW.str rfl opens_9
  obtain⟨e0,r0⟩:=k0
  obtain rfl:c0=_:=(List.cons.inj (show[c0]=_ from e0)).1
  obtain⟨y1,k1⟩:=hf 1 _ AW.int rfl opens_3
  obtain⟨e1,r1⟩:=k1
  obtain rfl:c1=_:=(List.cons.inj (show[c1]=_ from e1)).1
  obtain⟨y2,k2⟩:=hf 2 _ AW.int rfl opens_3
  obtain⟨e2,r2⟩:=k2
  obtain rfl:c2=_:=(List.cons.inj (show[c2]=_ from e2)).1
  obtain⟨y3,k3⟩:=hf 3 _ AW.int rfl opens_3
  obtain⟨e3,r3⟩:=k3
  obtain rfl:c3=_:=(List.cons.inj (show[c3]=_ from e3)).1
  obtain⟨y4,k4⟩:=hf 4 _ AW.int rfl opens_3
  obtain⟨e4,r4⟩:=k4
  obtain rfl:c4=_:=(List.cons.inj (show[c4]=_ from e4)).1
  obtain⟨y5,k5⟩:=hf 5 _ AW.int rfl opens_3
  obtain⟨e5,r5⟩:=k5
  obtain rfl:c5=_:=(List.cons.inj (show[c5]=_ from e5)).1
  obtain⟨y6,k6⟩:=hf 6 _ AW.int rfl opens_3
  obtain⟨e6,r6⟩:=k6
  obtain rfl:c6=_:=(List.cons.inj (show[c6]=_ from e6)).1
  exact⟨⟨y0,y1,y2,y3,y4,y5,y6⟩,⟨rfl,⟨r0,r1,r2,r3,r4,r5,r6⟩⟩⟩
theorem opens_27:DB Tryz.prog 27 (AW.sl Ex):=EB (by kernel_rfl) Tryz.underlying27 opens_160 rfl
theorem opens_158:DB Tryz.prog 158 Cd:=by
 have hc:Tryz.prog.cellsOf 158=2:=by kernel_rfl
 refine⟨hc,λ{H enc w base spare held fuel cs x} h=>?_⟩
 obtain⟨hl,hf⟩:=CH Tryz.underlying158 h
 rw[hc] at hl
 match cs,hl with
 |[c0,c1],_=>
  obtain⟨y0,k0⟩:=hf 0 _ AW.str rfl opens_9
  obtain⟨e0,r0⟩:=k0
  obtain rfl:c0=_:=(List.cons.inj (show[c0]=_ from e0)).1
  obtain⟨y1,k1⟩:=hf 1 _ AW.int rfl opens_3
  obtain⟨e1,r1⟩:=k1
  obtain rfl:c1=_:=(List.cons.inj (show[c1]=_ from e1)).1
  exact⟨⟨y0,y1⟩,⟨rfl,⟨r0,r1⟩⟩⟩
theorem opens_28:DB Tryz.prog 28 (AW.sl Cd):=EB (by kernel_rfl) Tryz.underlying28 opens_158 rfl
theorem opens_31:DB Tryz.prog 31 BG:=by
 have hc:Tryz.prog.cellsOf 31=11:=by kernel_rfl
 refine⟨hc,λ{H enc w base spare held fuel cs x} h=>?_⟩
 obtain⟨hl,hf⟩:=CH Tryz.underlying31 h
 rw[hc] at hl
 match cs,hl with
 |[c0,c1,c2,c3,c4,c5,c6,c7,c8,c9,c10],_=>
  obtain⟨y0,k0⟩:=hf 0 _ AW.str rfl opens_9
  obtain⟨e0,r0⟩:=k0
  obtain rfl:c0=_:=(List.cons.inj (show[c0]=_ from e0)).1
  obtain⟨y1,k1⟩:=hf 1 _ (AW.sl AW.str) rfl opens_22
  obtain⟨w1,e1,r1⟩:=k1
  obtain rfl:c1=_:=(List.cons.inj (show[c1]=_ from e1)).1
  obtain⟨y2,k2⟩:=hf 2 _ AW.int rfl opens_3
  obtain⟨e2,r2⟩:=k2
  obtain rfl:c2=_:=(List.cons.inj (show[c2]=_ from e2)).1
  obtain⟨y3,k3⟩:=hf 3 _ (AW.sl BF) rfl opens_23
  obtain⟨w3,e3,r3⟩:=k3
  obtain rfl:c3=_:=(List.cons.inj (show[c3]=_ from e3)).1
  obtain⟨y4,k4⟩:=hf 4 _ (AW.sl A9) rfl opens_24
  obtain⟨w4,e4,r4⟩:=k4
  obtain rfl:c4=_:=(List.cons.inj (show[c4]=_ from e4)).1
  obtain⟨y5,k5⟩:=hf 5 _ (AW.sl E7) rfl opens_25
  obtain⟨w5,e5,r5⟩:=k5
  obtain rfl:c5=_:=(List.cons.inj (show[c5]=_ from e5)).1
  obtain⟨y6,k6⟩:=hf 6 _ (AW.sl De) rfl opens_26
  obtain⟨w6,e6,r6⟩:=k6
  obtain rfl:c6=_:=(List.cons.inj (show[c6]=_ from e6)).1
  obtain⟨y7,k7⟩:=hf 7 _ (AW.sl Ex) rfl opens_27
  obtain⟨w7,e7,r7⟩:=k7
  obtain rfl:c7=_:=(List.cons.inj (show[c7]=_ from e7)).1
  obtain⟨y8,k8⟩:=hf 8 _ (AW.sl Cd) rfl opens_28
  obtain⟨w8,e8,r8⟩:=k8
  obtain rfl:c8=_:=(List.cons.inj (show[c8]=_ from e8)).1
  obtain⟨y9,k9⟩:=hf 9 _ (AW.sl AW.int) rfl opens_29
  obtain⟨w9,e9,r9⟩:=k9
  obtain rfl:c9=_:=(List.cons.inj (show[c9]=_ from e9)).1
  obtain⟨y10,k10⟩:=hf 10 _ AW.int rfl opens_3
  obtain⟨e10,r10⟩:=k10
  obtain rfl:c10=_:=(List.cons.inj (show[c10]=_ from e10)).1
  exact⟨⟨y0,y1,y2,y3,y4,y5,y6,y7,y8,y9,y10⟩,⟨c1,c3,c4,c5,c6,c7,c8,c9,rfl,r0,r1,r2,r3,r4,r5,r6,r7,r8,r9,r10⟩⟩
theorem opens_51:DB Tryz.prog 51 AH:=by
 have hc:Tryz.prog.cellsOf 51=2:=by kernel_rfl
 refine⟨hc,λ{H enc w base spare held fuel cs x} h=>?_⟩
 obtain⟨hl,hf⟩:=CH Tryz.underlying51 h
 rw[hc] at hl
 match cs,hl with
 |[c0,c1],_=>
  obtain⟨y0,k0⟩:=hf 0 _ AW.int rfl opens_3
  obtain⟨e0,r0⟩:=k0
  obtain rfl:c0=_:=(List.cons.inj (show[c0]=_ from e0)).1
  obtain⟨y1,k1⟩:=hf 1 _ AW.int rfl opens_3
  obtain⟨e1,r1⟩:=k1
  obtain rfl:c1=_:=(List.cons.inj (show[c1]=_ from e1)).1
  exact⟨⟨y0,y1⟩,⟨rfl,⟨r0,r1⟩⟩⟩
theorem opens_32:DB Tryz.prog 32 (AW.sl AH):=EB (by kernel_rfl) Tryz.underlying32 opens_51 rfl
theorem opens_93:DB Tryz.prog 93 BO:=by
 have hc:Tryz.prog.cellsOf 93=4:=by kernel_rfl
 refine⟨hc,λ{H enc w base spare held fuel cs x} h=>?_⟩
 obtain⟨hl,hf⟩:=CH Tryz.underlying93 h
 rw[hc] at hl
 match cs,hl with
 |[c0,c1,c2,c3],_=>
  obtain⟨y0,k0⟩:=hf 0 _ AW.int rfl opens_3
  obtain⟨e0,r0⟩:=k0
  obtain rfl:c0=_:=(List.cons.inj (show[c0]=_ from e0)).1
  obtain⟨y1,k1⟩:=hf 1 _ AW.int rfl opens_3
  obtain⟨e1,r1⟩:=k1
  obtain rfl:c1=_:=(List.cons.inj (show[c1]=_ from e1)).1
  obtain⟨y2,k2⟩:=hf 2 _ AH rfl opens_51
  obtain⟨e2,⟨r2_0,r2_1⟩⟩:=k2
  obtain⟨rfl,rfl⟩:c2=_∧c3=_:=by simpa using (show[c2,c3]=_ from e2)
  exact⟨⟨y0,y1,y2⟩,⟨rfl,⟨r0,r1,r2_0,r2_1⟩⟩⟩
theorem opens_33:DB Tryz.prog 33 (AW.sl BO):=EB (by kernel_rfl) Tryz.underlying33 opens_93 rfl
theorem opens_97:DB Tryz.prog 97 Aa:=by
 have hc:Tryz.prog.cellsOf 97=5:=by kernel_rfl
 refine⟨hc,λ{H enc w base spare held fuel cs x} h=>?_⟩
 obtain⟨hl,hf⟩:=CH Tryz.underlying97 h
 rw[hc] at hl
 match cs,hl with
 |[c0,c1,c2,c3,c4],_=>
  obtain⟨y0,k0⟩:=hf 0 _ AH rfl opens_51
  obtain⟨e0,⟨r0_0,r0_1⟩⟩:=k0
  obtain⟨rfl,rfl⟩:c0=_∧c1=_:=by simpa using (show[c0,c1]=_ from e0)
  obtain⟨y1,k1⟩:=hf 1 _ AW.int rfl opens_3
  obtain⟨e1,r1⟩:=k1
  obtain rfl:c2=_:=(List.cons.inj (show[c2]=_ from e1)).1
  obtain⟨y2,k2⟩:=hf 2 _ AH rfl opens_51
  obtain⟨e2,⟨r2_0,r2_1⟩⟩:=k2
  obtain⟨rfl,rfl⟩:c3=_∧c4=_:=by simpa using (show[c3,c4]=_ from e2)
  exact⟨⟨y0,y1,y2⟩,⟨rfl,⟨r0_0,r0_1,r1,r2_0,r2_1⟩⟩⟩
theorem opens_34:DB Tryz.prog 34 (AW.sl Aa):=EB (by kernel_rfl) Tryz.underlying34 opens_97 rfl
theorem opens_36:DB Tryz.prog 36 CE:=by
 have hc:Tryz.prog.cellsOf 36=4:=by kernel_rfl
 refine⟨hc,λ{H enc w base spare held fuel cs x} h=>?_⟩
 obtain⟨hl,hf⟩:=CH Tryz.underlying36 h
 rw[hc] at hl
 match cs,hl with
 |[c0,c1,c2,c3],_=>
  obtain⟨y0,k0⟩:=hf 0 _ AW.int rfl opens_3
  obtain⟨e0,r0⟩:=k0
  obtain rfl:c0=_:=(List.cons.inj (show[c0]=_ from e0)).1
  obtain⟨y1,k1⟩:=hf 1 _ (AW.sl AH) rfl opens_32
  obtain⟨w1,e1,r1⟩:=k1
  obtain rfl:c1=_:=(List.cons.inj (show[c1]=_ from e1)).1
  obtain⟨y2,k2⟩:=hf 2 _ (AW.sl BO) rfl opens_33
  obtain⟨w2,e2,r2⟩:=k2
  obtain rfl:c2=_:=(List.cons.inj (show[c2]=_ from e2)).1
  obtain⟨y3,k3⟩:=hf 3 _ (AW.sl Aa) rfl opens_34
  obtain⟨w3,e3,r3⟩:=k3
  obtain rfl:c3=_:=(List.cons.inj (show[c3]=_ from e3)).1
  exact⟨⟨y0,y1,y2,y3⟩,⟨c1,c2,c3,rfl,r0,r1,r2,r3⟩⟩
theorem opens_171:DB Tryz.prog 171 Gg:=by
 have hc:Tryz.prog.cellsOf 171=2:=by kernel_rfl
 refine⟨hc,λ{H enc w base spare held fuel cs x} h=>?_⟩
 obtain⟨hl,hf⟩:=CH Tryz.underlying171 h
 rw[hc] at hl
 match cs,hl with
 |[c0,c1],_=>
  obtain⟨y0,k0⟩:=hf 0 _ AW.int rfl opens_3
  obtain⟨e0,r0⟩:=k0
  obtain rfl:c0=_:=(List.cons.inj (show[c0]=_ from e0)).1
  obtain⟨y1,k1⟩:=hf 1 _ AW.int rfl opens_3
  obtain⟨e1,r1⟩:=k1
  obtain rfl:c1=_:=(List.cons.inj (show[c1]=_ from e1)).1
  exact⟨⟨y0,y1⟩,⟨rfl,⟨r0,r1⟩⟩⟩
theorem opens_37:DB Tryz.prog 37 (AW.sl Gg):=EB (by kernel_rfl) Tryz.underlying37 opens_171 rfl
theorem opens_173:DB Tryz.prog 173 Iv:=by
 have hc:Tryz.prog.cellsOf 173=2:=by kernel_rfl
 refine⟨hc,λ{H enc w base spare held fuel cs x} h=>?_⟩
 obtain⟨hl,hf⟩:=CH Tryz.underlying173 h
 rw[hc] at hl
 match cs,hl with
 |[c0,c1],_=>
  obtain⟨y0,k0⟩:=hf 0 _ AW.int rfl opens_3
  obtain⟨e0,r0⟩:=k0
  obtain rfl:c0=_:=(List.cons.inj (show[c0]=_ from e0)).1
  obtain⟨y1,k1⟩:=hf 1 _ AW.int rfl opens_3
  obtain⟨e1,r1⟩:=k1
  obtain rfl:c1=_:=(List.cons.inj (show[c1]=_ from e1)).1
  exact⟨⟨y0,y1⟩,⟨rfl,⟨r0,r1⟩⟩⟩
theorem opens_38:DB Tryz.prog 38 (AW.sl Iv):=EB (by kernel_rfl) Tryz.underlying38 opens_173 rfl
theorem opens_184:DB Tryz.prog 184 GX:=by
 have hc:Tryz.prog.cellsOf 184=4:=by kernel_rfl
 refine⟨hc,λ{H enc w base spare held fuel cs x} h=>?_⟩
 obtain⟨hl,hf⟩:=CH Tryz.underlying184 h
 rw[hc] at hl
 match cs,hl with
 |[c0,c1,c2,c3],_=>
  obtain⟨y0,k0⟩:=hf 0 _ AW.int rfl opens_3
  obtain⟨e0,r0⟩:=k0
  obtain rfl:c0=_:=(List.cons.inj (show[c0]=_ from e0)).1
  obtain⟨y1,k1⟩:=hf 1 _ AW.int rfl opens_3
  obtain⟨e1,r1⟩:=k1
  obtain rfl:c1=_:=(List.cons.inj (show[c1]=_ from e1)).1
  obtain⟨y2,k2⟩:=hf 2 _ AW.int rfl opens_3
  obtain⟨e2,r2⟩:=k2
  obtain rfl:c2=_:=(List.cons.inj (show[c2]=_ from e2)).1
  obtain⟨y3,k3⟩:=hf 3 _ AW.int rfl opens_3
  obtain⟨e3,r3⟩:=k3
  obtain rfl:c3=_:=(List.cons.inj (show[c3]=_ from e3)).1
  exact⟨⟨y0,y1,y2,y3⟩,⟨rfl,⟨r0,r1,r2,r3⟩⟩⟩
theorem opens_39:DB Tryz.prog 39 (AW.sl GX):=EB (by kernel_rfl) Tryz.underlying39 opens_184 rfl
theorem opens_260:DB Tryz.prog 260 Hh:=by
 have hc:Tryz.prog.cellsOf 260=4:=by kernel_rfl
 refine⟨hc,λ{H enc w base spare held fuel cs x} h=>?_⟩
 obtain⟨hl,hf⟩:=CH Tryz.underlying260 h
 rw[hc] at hl
 match cs,hl with
 |[c0,c1,c2,c3],_=>
  obtain⟨y0,k0⟩:=hf 0 _ AW.int rfl opens_3
  obtain⟨e0,r0⟩:=k0
  obtain rfl:c0=_:=(List.cons.inj (show[c0]=_ from e0)).1
  obtain⟨y1,k1⟩:=hf 1 _ AW.int rfl opens_3
  obtain⟨e1,r1⟩:=k1
  obtain rfl:c1=_:=(List.cons.inj (show[c1]=_ from e1)).1
  obtain⟨y2,k2⟩:=hf 2 _ AW.int rfl opens_3
  obtain⟨e2,r2⟩:=k2
  obtain rfl:c2=_:=(List.cons.inj (show[c2]=_ from e2)).1
  obtain⟨y3,k3⟩:=hf 3 _ AW.int rfl opens_3
  obtain⟨e3,r3⟩:=k3
  obtain rfl:c3=_:=(List.cons.inj (show[c3]=_ from e3)).1
  exact⟨⟨y0,y1,y2,y3⟩,⟨rfl,⟨r0,r1,r2,r3⟩⟩⟩
theorem opens_40:DB Tryz.prog 40 (AW.sl Hh):=EB (by kernel_rfl) Tryz.underlying40 opens_260 rfl
theorem opens_42:DB Tryz.prog 42 E0:=by
 have hc:Tryz.prog.cellsOf 42=5:=by kernel_rfl
 refine⟨hc,λ{H enc w base spare held fuel cs x} h=>?_⟩
 obtain⟨hl,hf⟩:=CH Tryz.underlying42 h
 rw[hc] at hl
 match cs,hl with
 |[c0,c1,c2,c3,c4],_=>
  obtain⟨y0,k0⟩:=hf 0 _ (AW.sl AW.int) rfl opens_29
  obtain⟨w0,e0,r0⟩:=k0
  obtain rfl:c0=_:=(List.cons.inj (show[c0]=_ from e0)).1
  obtain⟨y1,k1⟩:=hf 1 _ (AW.sl Gg) rfl opens_37
  obtain⟨w1,e1,r1⟩:=k1
  obtain rfl:c1=_:=(List.cons.inj (show[c1]=_ from e1)).1
  obtain⟨y2,k2⟩:=hf 2 _ (AW.sl Iv) rfl opens_38
  obtain⟨w2,e2,r2⟩:=k2
  obtain rfl:c2=_:=(List.cons.inj (show[c2]=_ from e2)).1
  obtain⟨y3,k3⟩:=hf 3 _ (AW.sl GX) rfl opens_39
  obtain⟨w3,e3,r3⟩:=k3
  obtain rfl:c3=_:=(List.cons.inj (show[c3]=_ from e3)).1
  obtain⟨y4,k4⟩:=hf 4 _ (AW.sl Hh) rfl opens_40
  obtain⟨w4,e4,r4⟩:=k4
  obtain rfl:c4=_:=(List.cons.inj (show[c4]=_ from e4)).1
  exact⟨⟨y0,y1,y2,y3,y4⟩,⟨c0,c1,c2,c3,c4,rfl,r0,r1,r2,r3,r4⟩⟩
theorem opens_4:DB Tryz.prog 4 AW.bool:=Qb (by kernel_rfl) Tryz.underlying4
theorem opens_43:DB Tryz.prog 43 (AW.sl AW.bool):=EB (by kernel_rfl) Tryz.underlying43 opens_4 rfl
set_option maxRecDepth 100000 in
theorem hright_holds_lifted (os:Os) (started:os.Started) (H:Type) (enc:TypeId×Value→H):
  ReturnsInHanded {} Tryz.checked os 3 .any (Rows.hullRightSpec.pre6 enc Tryz.prog Tryz.f3 Rows.hullRightRow.domain false) (Rows.hullRightSpec.post enc Tryz.prog Tryz.f3 false true false false):=by
 refine returnsInHanded_of_change (C:=Tryz.checked) (by kernel_rfl) started (by kernel_rfl) Tryz.func3
  (ChangeSpec.witness6 (enc:=enc) (C:=Tryz.checked) false ⟨#[],#[.agg #[.string ByteArray.empty,.slice none 0 0,.int .i64 0,.slice none 0 0,.slice none 0 0,.slice none 0 0,.slice none 0 0,.slice none 0 0,.slice none 0 0,.slice none 0 0,.int .i64 0],.agg #[.int .i64 0,.slice none 0 0,.slice none 0 0,.slice none 0 0],.agg #[.slice none 0 0,.slice none 0 0,.slice none 0 0,.slice none 0 0,.slice none 0 0],.slice none 0 0,.slice none 0 0],[]⟩ 8 (by kernel_rfl) (by kernel_rfl) (by kernel_rfl) (by kernel_rfl)) ?_
 intro W base args ds gs before hval0 hW hcnd _
 have hval:∀(j:Nat) t v,Tryz.f3.params[j]? =some t→args[j]? =some v→Value.okWide Tryz.prog W .any base t v:=hval0
 have hW':=hW
 obtain⟨p,q,hA0,hV,rfl,hfz,hnd⟩:=hW
 have hA:DataW.TrodAll enc Tryz.prog W 0 (λ_=>true) true Tryz.f3.params.toList args.toList ds p:=hA0
 rw[Tryz.params3] at hA hval
 obtain⟨v0,vs0,d0,ds0,p0,q0,ha0,rfl,rfl,h0,r0⟩:=trodAll_cons hA
 obtain⟨v1,vs1,d1,ds1,p1,q1,rfl,rfl,rfl,h1,r1⟩:=trodAll_cons r0
 obtain⟨v2,vs2,d2,ds2,p2,q2,rfl,rfl,rfl,h2,r2⟩:=trodAll_cons r1
 obtain⟨v3,vs3,d3,ds3,p3,q3,rfl,rfl,rfl,h3,r3⟩:=trodAll_cons r2
 obtain⟨v4,vs4,d4,ds4,p4,q4,rfl,rfl,rfl,h4,r4⟩:=trodAll_cons r3
 obtain⟨rfl,rfl,rfl⟩:=trodAll_nil r4
 obtain rfl:args= #[v0,v1,v2,v3,v4]:=by cases args;simp_all
 obtain⟨rfl,rfl⟩:=trodVars_none hV
 obtain⟨x0,k0⟩:=Qo opens_31 rfl Tryz.underlying31 (hval 0 31 v0 rfl rfl) h0
 obtain⟨x1,k1⟩:=Qo opens_36 rfl Tryz.underlying36 (hval 1 36 v1 rfl rfl) h1
 obtain⟨x2,k2⟩:=Qo opens_42 rfl Tryz.underlying42 (hval 2 42 v2 rfl rfl) h2
 obtain⟨x3,k3⟩:=Ru opens_43 rfl rfl (Pk Tryz.underlying43 (hval 3 43 v3 rfl rfl)) h3
 obtain⟨x4,k4⟩:=Ru opens_32 rfl rfl (Pk Tryz.underlying32 (hval 4 32 v4 rfl rfl)) h4
 refine(SI (hright_ret (St.all W.heap) k0 k1 k2 k3.sl k4.sl)).mono λe W' ⟨he,hb⟩=>⟨_,he,?_⟩
 exact Tj (tb:=4) (by kernel_rfl) (by kernel_rfl) hW' (by kernel_rfl) Tryz.underlying4 rfl rfl rfl rfl hb
theorem hright_holds:Rows.HullRightSaid:=
 OpenClaim.holds_of_wide 3 Tryz.f3 rfl rfl rfl rfl rfl rfl rfl ⟨rfl,rfl,rfl,rfl,rfl⟩ rfl rfl rfl rfl rfl (by kernel_rfl) Tryz.func3 (by kernel_rfl)
  (of_decide_eq_true (by kernel_rfl)) (by unfold Func.isWrapper;first|(rw [if_pos (by decide +kernel)];kernel_rfl)|(rw [if_neg (by decide +kernel)];exact⟨rfl,rfl⟩))
  (λos started H enc _=>hright_holds_lifted os started H enc)
end hright
end Go.Proofs.YtibidnaedddfdaaGreat
