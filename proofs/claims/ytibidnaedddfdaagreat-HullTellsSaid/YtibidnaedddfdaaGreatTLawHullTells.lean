/- The law HullTells holds for every input. No conditions. -/
import Derived.Test.YtibidnaedddfdaaGreatTPureDiv2
import Derived.Test.YtibidnaedddfdaaGreatTCore32
namespace Go.Proofs.YtibidnaedddfdaaGreat
set_option linter.all false
open Go.ChangeShapes Go.WideShapes Go.ChangeAt Go.RowKit
open Go.Proofs.Tryz
namespace htells
theorem htells_ret {S:Nat→Prop}{L:List HP}{h:A4}(hs:St S L h) {v0:Value}{x0:AH}(k0:Rd S h B5 v0 x0) {v1:Value}{x1:BQ}(k1:Rd S h DX v1 x1) {v2:Value}{x2:AX}(k2:Rd S h DD v2 x2) {v3:Value}{x3:Cn}(k3:Rd S h Gr v3 x3) {v4:Value}{x4:(List Bool)}(k4:Sl S h BX.bool v4 x4) {v5:Value}{x5:(List AB)}(k5:Sl S h AC v5 x5) (l0:x2.G.length≤8796093022208):CA prog 5 #[v0,v1,v2,v3,v4,v5] S h (λv S' h'=>v= .bool true∧St S' L h'):=
 Nw hs k0 k1 k2 k3 k4 k5 Xp (VQ _ _ _ _ _ _ l0 (Z3 k3) (Z7 k5))
theorem opens_9:Et prog 9 BX.str:=ZD (by kernel_rfl) underlying9
theorem opens_22:Et prog 22 (BX.sl BX.str):=HA (by kernel_rfl) underlying22 opens_9 rfl
theorem opens_3:Et prog 3 AW:=ZE (by kernel_rfl) underlying3
theorem opens_90:Et prog 90 CJ:=by
 have hc:prog.cellsOf 90=2:=by kernel_rfl
 refine⟨hc,λ{H enc w base spare held fuel cs x} h=>?_⟩;obtain⟨hl,hf⟩:=Dh underlying90 h;rw[hc] at hl
 match cs,hl with
 |[c0,c1],_=>
  obtain⟨y0,k0⟩:=hf 0 _ AW rfl opens_3;obtain⟨e0,r0⟩:=k0;obtain rfl:c0=_:=(wK (show[c0]=_ from e0)).1;obtain⟨y1,k1⟩:=hf 1 _ AW rfl opens_3;obtain⟨e1,r1⟩:=k1;obtain rfl:c1=_:=(wK (show[c1]=_ from e1)).1;exact⟨⟨y0,y1⟩,⟨rfl,⟨r0,r1⟩⟩⟩
theorem opens_54:Et prog 54 (BX.sl CJ):=HA (by kernel_rfl) underlying54 opens_90 rfl
theorem opens_29:Et prog 29 (BX.sl AW):=HA (by kernel_rfl) underlying29 opens_3 rfl
theorem opens_164:Et prog 164 NB:=by
 have hc:prog.cellsOf 164=2:=by kernel_rfl
 refine⟨hc,λ{H enc w base spare held fuel cs x} h=>?_⟩;obtain⟨hl,hf⟩:=Dh underlying164 h;rw[hc] at hl
 match cs,hl with
 |[c0,c1],_=>
  obtain⟨y0,k0⟩:=hf 0 _ AW rfl opens_3;obtain⟨e0,r0⟩:=k0;obtain rfl:c0=_:=(wK (show[c0]=_ from e0)).1;obtain⟨y1,k1⟩:=hf 1 _ AW rfl opens_3;obtain⟨e1,r1⟩:=k1;obtain rfl:c1=_:=(wK (show[c1]=_ from e1)).1;exact⟨⟨y0,y1⟩,⟨rfl,⟨r0,r1⟩⟩⟩
theorem opens_55:Et prog 55 (BX.sl NB):=HA (by kernel_rfl) underlying55 opens_164 rfl
theorem opens_57:Et prog 57 B3:=by
 have hc:prog.cellsOf 57=12:=by kernel_rfl
 refine⟨hc,λ{H enc w base spare held fuel cs x} h=>?_⟩;obtain⟨hl,hf⟩:=Dh underlying57 h;rw[hc] at hl
 match cs,hl with
 |[c0,c1,c2,c3,c4,c5,c6,c7,c8,c9,c10,c11],_=>
  obtain⟨y0,k0⟩:=hf 0 _ BX.str rfl opens_9;obtain⟨e0,r0⟩:=k0;obtain rfl:c0=_:=(wK (show[c0]=_ from e0)).1;obtain⟨y1,k1⟩:=hf 1 _ AW rfl opens_3;obtain⟨e1,r1⟩:=k1;obtain rfl:c1=_:=(wK (show[c1]=_ from e1)).1;obtain⟨y2,k2⟩:=hf 2 _ AW rfl opens_3;obtain⟨e2,r2⟩:=k2;obtain rfl:c2=_:=(wK (show[c2]=_ from e2)).1;obtain⟨y3,k3⟩:=hf 3 _ AW rfl opens_3;obtain⟨e3,r3⟩:=k3;obtain rfl:c3=_:=(wK (show[c3]=_ from e3)).1;obtain⟨y4,k4⟩:=hf 4 _ (BX.sl CJ) rfl opens_54;obtain⟨w4,e4,r4⟩:=k4;obtain rfl:c4=_:=(wK (show[c4]=_ from e4)).1;obtain⟨y5,k5⟩:=hf 5 _ (BX.sl AW) rfl opens_29;obtain⟨w5,e5,r5⟩:=k5;obtain rfl:c5=_:=(wK (show[c5]=_ from e5)).1;obtain⟨y6,k6⟩:=hf 6 _ AW rfl opens_3;obtain⟨e6,r6⟩:=k6;obtain rfl:c6=_:=(wK (show[c6]=_ from e6)).1;obtain⟨y7,k7⟩:=hf 7 _ AW rfl opens_3;obtain⟨e7,r7⟩:=k7;obtain rfl:c7=_:=(wK (show[c7]=_ from e7)).1;obtain⟨y8,k8⟩:=hf 8 _ AW rfl opens_3;obtain⟨e8,r8⟩:=k8;obtain rfl:c8=_:=(wK (show[c8]=_ from e8)).1;obtain⟨y9,k9⟩:=hf 9 _ AW rfl opens_3;obtain⟨e9,r9⟩:=k9;obtain rfl:c9=_:=(wK (show[c9]=_ from e9)).1;obtain⟨y10,k10⟩:=hf 10 _ AW rfl opens_3;obtain⟨e10,r10⟩:=k10;obtain rfl:c10=_:=(wK (show[c10]=_ from e10)).1;obtain⟨y11,k11⟩:=hf 11 _ (BX.sl NB) rfl opens_55;obtain⟨w11,e11,r11⟩:=k11;obtain rfl:c11=_:=(wK (show[c11]=_ from e11)).1;exact⟨⟨y0,y1,y2,y3,y4,y5,y6,y7,y8,y9,y10,y11⟩,⟨c4,c5,c11,rfl,r0,r1,r2,r3,r4,r5,r6,r7,r8,r9,r10,r11⟩⟩
theorem opens_23:Et prog 23 (BX.sl B3):=HA (by kernel_rfl) underlying23 opens_57 rfl
theorem opens_100:Et prog 100 NC:=by
 have hc:prog.cellsOf 100=2:=by kernel_rfl
 refine⟨hc,λ{H enc w base spare held fuel cs x} h=>?_⟩;obtain⟨hl,hf⟩:=Dh underlying100 h;rw[hc] at hl
 match cs,hl with
 |[c0,c1],_=>
  obtain⟨y0,k0⟩:=hf 0 _ (BX.sl CJ) rfl opens_54;obtain⟨w0,e0,r0⟩:=k0;obtain rfl:c0=_:=(wK (show[c0]=_ from e0)).1;obtain⟨y1,k1⟩:=hf 1 _ (BX.sl CJ) rfl opens_54;obtain⟨w1,e1,r1⟩:=k1;obtain rfl:c1=_:=(wK (show[c1]=_ from e1)).1;exact⟨⟨y0,y1⟩,⟨c0,c1,rfl,r0,r1⟩⟩
theorem opens_102:Et prog 102 BL:=by
 have hc:prog.cellsOf 102=18:=by kernel_rfl
 refine⟨hc,λ{H enc w base spare held fuel cs x} h=>?_⟩;obtain⟨hl,hf⟩:=Dh underlying102 h;rw[hc] at hl
 match cs,hl with
 |[c0,c1,c2,c3,c4,c5,c6,c7,c8,c9,c10,c11,c12,c13,c14,c15,c16,c17],_=>
  obtain⟨y0,k0⟩:=hf 0 _ BX.str rfl opens_9;obtain⟨e0,r0⟩:=k0;obtain rfl:c0=_:=(wK (show[c0]=_ from e0)).1;obtain⟨y1,k1⟩:=hf 1 _ AW rfl opens_3;obtain⟨e1,r1⟩:=k1;obtain rfl:c1=_:=(wK (show[c1]=_ from e1)).1;obtain⟨y2,k2⟩:=hf 2 _ AW rfl opens_3;obtain⟨e2,r2⟩:=k2;obtain rfl:c2=_:=(wK (show[c2]=_ from e2)).1;obtain⟨y3,k3⟩:=hf 3 _ AW rfl opens_3;obtain⟨e3,r3⟩:=k3;obtain rfl:c3=_:=(wK (show[c3]=_ from e3)).1;obtain⟨y4,k4⟩:=hf 4 _ (BX.sl CJ) rfl opens_54;obtain⟨w4,e4,r4⟩:=k4;obtain rfl:c4=_:=(wK (show[c4]=_ from e4)).1;obtain⟨y5,k5⟩:=hf 5 _ NC rfl opens_100;obtain⟨w5_0,w5_1,e5,r5_0,r5_1⟩:=k5;obtain⟨rfl,rfl⟩:c5=_∧c6=_:=by simpa using (show[c5,c6]=_ from e5)
  obtain⟨y6,k6⟩:=hf 6 _ AW rfl opens_3;obtain⟨e6,r6⟩:=k6;obtain rfl:c7=_:=(wK (show[c7]=_ from e6)).1;obtain⟨y7,k7⟩:=hf 7 _ AW rfl opens_3;obtain⟨e7,r7⟩:=k7;obtain rfl:c8=_:=(wK (show[c8]=_ from e7)).1;obtain⟨y8,k8⟩:=hf 8 _ AW rfl opens_3;obtain⟨e8,r8⟩:=k8;obtain rfl:c9=_:=(wK (show[c9]=_ from e8)).1;obtain⟨y9,k9⟩:=hf 9 _ AW rfl opens_3;obtain⟨e9,r9⟩:=k9;obtain rfl:c10=_:=(wK (show[c10]=_ from e9)).1;obtain⟨y10,k10⟩:=hf 10 _ AW rfl opens_3;obtain⟨e10,r10⟩:=k10;obtain rfl:c11=_:=(wK (show[c11]=_ from e10)).1;obtain⟨y11,k11⟩:=hf 11 _ AW rfl opens_3;obtain⟨e11,r11⟩:=k11;obtain rfl:c12=_:=(wK (show[c12]=_ from e11)).1;obtain⟨y12,k12⟩:=hf 12 _ AW rfl opens_3;obtain⟨e12,r12⟩:=k12;obtain rfl:c13=_:=(wK (show[c13]=_ from e12)).1;obtain⟨y13,k13⟩:=hf 13 _ AW rfl opens_3;obtain⟨e13,r13⟩:=k13;obtain rfl:c14=_:=(wK (show[c14]=_ from e13)).1;obtain⟨y14,k14⟩:=hf 14 _ AW rfl opens_3;obtain⟨e14,r14⟩:=k14;obtain rfl:c15=_:=(wK (show[c15]=_ from e14)).1;obtain⟨y15,k15⟩:=hf 15 _ AW rfl opens_3;obtain⟨e15,r15⟩:=k15;obtain rfl:c16=_:=(wK (show[c16]=_ from e15)).1;obtain⟨y16,k16⟩:=hf 16 _ AW rfl opens_3;obtain⟨e16,r16⟩:=k16;obtain rfl:c17=_:=(wK (show[c17]=_ from e16)).1;exact⟨⟨y0,y1,y2,y3,y4,y5,y6,y7,y8,y9,y10,y11,y12,y13,y14,y15,y16⟩,⟨c4,c5,c6,rfl,r0,r1,r2,r3,r4,r5_0,r5_1,r6,r7,r8,r9,r10,r11,r12,r13,r14,r15,r16⟩⟩
theorem opens_24:Et prog 24 (BX.sl BL):=HA (by kernel_rfl) underlying24 opens_102 rfl
theorem opens_114:Et prog 114 Gn:=by
 have hc:prog.cellsOf 114=7:=by kernel_rfl
 refine⟨hc,λ{H enc w base spare held fuel cs x} h=>?_⟩;obtain⟨hl,hf⟩:=Dh underlying114 h;rw[hc] at hl
 match cs,hl with
 |[c0,c1,c2,c3,c4,c5,c6],_=>
  obtain⟨y0,k0⟩:=hf 0 _ BX.str rfl opens_9;obtain⟨e0,r0⟩:=k0;obtain rfl:c0=_:=(wK (show[c0]=_ from e0)).1;obtain⟨y1,k1⟩:=hf 1 _ AW rfl opens_3;obtain⟨e1,r1⟩:=k1;obtain rfl:c1=_:=(wK (show[c1]=_ from e1)).1;obtain⟨y2,k2⟩:=hf 2 _ AW rfl opens_3;obtain⟨e2,r2⟩:=k2;obtain rfl:c2=_:=(wK (show[c2]=_ from e2)).1;obtain⟨y3,k3⟩:=hf 3 _ AW rfl opens_3;obtain⟨e3,r3⟩:=k3;obtain rfl:c3=_:=(wK (show[c3]=_ from e3)).1;obtain⟨y4,k4⟩:=hf 4 _ AW rfl opens_3;obtain⟨e4,r4⟩:=k4;obtain rfl:c4=_:=(wK (show[c4]=_ from e4)).1;obtain⟨y5,k5⟩:=hf 5 _ AW rfl opens_3;obtain⟨e5,r5⟩:=k5;obtain rfl:c5=_:=(wK (show[c5]=_ from e5)).1;obtain⟨y6,k6⟩:=hf 6 _ AW rfl opens_3;obtain⟨e6,r6⟩:=k6;obtain rfl:c6=_:=(wK (show[c6]=_ from e6)).1;exact⟨⟨y0,y1,y2,y3,y4,y5,y6⟩,⟨rfl,⟨r0,r1,r2,r3,r4,r5,r6⟩⟩⟩
theorem opens_25:Et prog 25 (BX.sl Gn):=HA (by kernel_rfl) underlying25 opens_114 rfl
theorem opens_147:Et prog 147 ED:=by
 have hc:prog.cellsOf 147=5:=by kernel_rfl
 refine⟨hc,λ{H enc w base spare held fuel cs x} h=>?_⟩;obtain⟨hl,hf⟩:=Dh underlying147 h;rw[hc] at hl
 match cs,hl with
 |[c0,c1,c2,c3,c4],_=>
  obtain⟨y0,k0⟩:=hf 0 _ BX.str rfl opens_9;obtain⟨e0,r0⟩:=k0;obtain rfl:c0=_:=(wK (show[c0]=_ from e0)).1;obtain⟨y1,k1⟩:=hf 1 _ AW rfl opens_3;obtain⟨e1,r1⟩:=k1;obtain rfl:c1=_:=(wK (show[c1]=_ from e1)).1;obtain⟨y2,k2⟩:=hf 2 _ AW rfl opens_3;obtain⟨e2,r2⟩:=k2;obtain rfl:c2=_:=(wK (show[c2]=_ from e2)).1;obtain⟨y3,k3⟩:=hf 3 _ AW rfl opens_3;obtain⟨e3,r3⟩:=k3;obtain rfl:c3=_:=(wK (show[c3]=_ from e3)).1;obtain⟨y4,k4⟩:=hf 4 _ AW rfl opens_3;obtain⟨e4,r4⟩:=k4;obtain rfl:c4=_:=(wK (show[c4]=_ from e4)).1;exact⟨⟨y0,y1,y2,y3,y4⟩,⟨rfl,⟨r0,r1,r2,r3,r4⟩⟩⟩
theorem opens_26:Et prog 26 (BX.sl ED):=HA (by kernel_rfl) underlying26 opens_147 rfl
theorem opens_160:Et prog 160 Gp:=by
 have hc:prog.cellsOf 160=7:=by kernel_rfl
 refine⟨hc,λ{H enc w base spare held fuel cs x} h=>?_⟩;obtain⟨hl,hf⟩:=Dh underlying160 h;rw[hc] at hl
 match cs,hl with
 |[c0,c1,c2,c3,c4,c5,c6],_=>
  obtain⟨y0,k0⟩:=hf 0 _ BX.str rfl opens_9;obtain⟨e0,r0⟩:=k0;obtain rfl:c0=_:=(wK (show[c0]=_ from e0)).1;obtain⟨y1,k1⟩:=hf 1 _ AW rfl opens_3;obtain⟨e1,r1⟩:=k1;obtain rfl:c1=_:=(wK (show[c1]=_ from e1)).1;obtain⟨y2,k2⟩:=hf 2 _ AW rfl opens_3;obtain⟨e2,r2⟩:=k2;obtain rfl:c2=_:=(wK (show[c2]=_ from e2)).1;obtain⟨y3,k3⟩:=hf 3 _ AW rfl opens_3;obtain⟨e3,r3⟩:=k3;obtain rfl:c3=_:=(wK (show[c3]=_ from e3)).1;obtain⟨y4,k4⟩:=hf 4 _ AW rfl opens_3;obtain⟨e4,r4⟩:=k4;obtain rfl:c4=_:=(wK (show[c4]=_ from e4)).1;obtain⟨y5,k5⟩:=hf 5 _ AW rfl opens_3;obtain⟨e5,r5⟩:=k5;obtain rfl:c5=_:=(wK (show[c5]=_ from e5)).1;obtain⟨y6,k6⟩:=hf 6 _ AW rfl opens_3;obtain⟨e6,r6⟩:=k6;obtain rfl:c6=_:=(wK (show[c6]=_ from e6)).1;exact⟨⟨y0,y1,y2,y3,y4,y5,y6⟩,⟨rfl,⟨r0,r1,r2,r3,r4,r5,r6⟩⟩⟩
theorem opens_27:Et prog 27 (BX.sl Gp):=HA (by kernel_rfl) underlying27 opens_160 rfl
theorem opens_158:Et prog 158 DC:=by
 have hc:prog.cellsOf 158=2:=by kernel_rfl
 refine⟨hc,λ{H enc w base spare held fuel cs x} h=>?_⟩;obtain⟨hl,hf⟩:=Dh underlying158 h;rw[hc] at hl
 match cs,hl with
 |[c0,c1],_=>
  obtain⟨y0,k0⟩:=hf 0 _ BX.str rfl opens_9;obtain⟨e0,r0⟩:=k0;obtain rfl:c0=_:=(wK (show[c0]=_ from e0)).1;obtain⟨y1,k1⟩:=hf 1 _ AW rfl opens_3;obtain⟨e1,r1⟩:=k1;obtain rfl:c1=_:=(wK (show[c1]=_ from e1)).1;exact⟨⟨y0,y1⟩,⟨rfl,⟨r0,r1⟩⟩⟩
theorem opens_28:Et prog 28 (BX.sl DC):=HA (by kernel_rfl) underlying28 opens_158 rfl
theorem opens_31:Et prog 31 B5:=by
 have hc:prog.cellsOf 31=11:=by kernel_rfl
 refine⟨hc,λ{H enc w base spare held fuel cs x} h=>?_⟩;obtain⟨hl,hf⟩:=Dh underlying31 h;rw[hc] at hl
 match cs,hl with
 |[c0,c1,c2,c3,c4,c5,c6,c7,c8,c9,c10],_=>
  obtain⟨y0,k0⟩:=hf 0 _ BX.str rfl opens_9;obtain⟨e0,r0⟩:=k0;obtain rfl:c0=_:=(wK (show[c0]=_ from e0)).1;obtain⟨y1,k1⟩:=hf 1 _ (BX.sl BX.str) rfl opens_22;obtain⟨w1,e1,r1⟩:=k1;obtain rfl:c1=_:=(wK (show[c1]=_ from e1)).1;obtain⟨y2,k2⟩:=hf 2 _ AW rfl opens_3;obtain⟨e2,r2⟩:=k2;obtain rfl:c2=_:=(wK (show[c2]=_ from e2)).1;obtain⟨y3,k3⟩:=hf 3 _ (BX.sl B3) rfl opens_23;obtain⟨w3,e3,r3⟩:=k3;obtain rfl:c3=_:=(wK (show[c3]=_ from e3)).1;obtain⟨y4,k4⟩:=hf 4 _ (BX.sl BL) rfl opens_24;obtain⟨w4,e4,r4⟩:=k4;obtain rfl:c4=_:=(wK (show[c4]=_ from e4)).1;obtain⟨y5,k5⟩:=hf 5 _ (BX.sl Gn) rfl opens_25;obtain⟨w5,e5,r5⟩:=k5;obtain rfl:c5=_:=(wK (show[c5]=_ from e5)).1;obtain⟨y6,k6⟩:=hf 6 _ (BX.sl ED) rfl opens_26;obtain⟨w6,e6,r6⟩:=k6;obtain rfl:c6=_:=(wK (show[c6]=_ from e6)).1;obtain⟨y7,k7⟩:=hf 7 _ (BX.sl Gp) rfl opens_27;obtain⟨w7,e7,r7⟩:=k7;obtain rfl:c7=_:=(wK (show[c7]=_ from e7)).1;obtain⟨y8,k8⟩:=hf 8 _ (BX.sl DC) rfl opens_28;obtain⟨w8,e8,r8⟩:=k8;obtain rfl:c8=_:=(wK (show[c8]=_ from e8)).1;obtain⟨y9,k9⟩:=hf 9 _ (BX.sl AW) rfl opens_29;obtain⟨w9,e9,r9⟩:=k9;obtain rfl:c9=_:=(wK (show[c9]=_ from e9)).1;obtain⟨y10,k10⟩:=hf 10 _ AW rfl opens_3;obtain⟨e10,r10⟩:=k10;obtain rfl:c10=_:=(wK (show[c10]=_ from e10)).1;exact⟨⟨y0,y1,y2,y3,y4,y5,y6,y7,y8,y9,y10⟩,⟨c1,c3,c4,c5,c6,c7,c8,c9,rfl,r0,r1,r2,r3,r4,r5,r6,r7,r8,r9,r10⟩⟩
theorem opens_67:Et prog 67 (BX.sl (BX.sl AW)):=HA (by kernel_rfl) underlying67 opens_29 rfl
theorem opens_83:Et prog 83 Gq:=by
 have hc:prog.cellsOf 83=3:=by kernel_rfl
 refine⟨hc,λ{H enc w base spare held fuel cs x} h=>?_⟩;obtain⟨hl,hf⟩:=Dh underlying83 h;rw[hc] at hl
 match cs,hl with
 |[c0,c1,c2],_=>
  obtain⟨y0,k0⟩:=hf 0 _ AW rfl opens_3;obtain⟨e0,r0⟩:=k0;obtain rfl:c0=_:=(wK (show[c0]=_ from e0)).1;obtain⟨y1,k1⟩:=hf 1 _ AW rfl opens_3;obtain⟨e1,r1⟩:=k1;obtain rfl:c1=_:=(wK (show[c1]=_ from e1)).1;obtain⟨y2,k2⟩:=hf 2 _ (BX.sl AW) rfl opens_29;obtain⟨w2,e2,r2⟩:=k2;obtain rfl:c2=_:=(wK (show[c2]=_ from e2)).1;exact⟨⟨y0,y1,y2⟩,⟨c2,rfl,r0,r1,r2⟩⟩
theorem opens_68:Et prog 68 (BX.sl Gq):=HA (by kernel_rfl) underlying68 opens_83 rfl
theorem opens_4:Et prog 4 BX.bool:=W8 (by kernel_rfl) underlying4
theorem opens_81:Et prog 81 FU:=by
 have hc:prog.cellsOf 81=4:=by kernel_rfl
 refine⟨hc,λ{H enc w base spare held fuel cs x} h=>?_⟩;obtain⟨hl,hf⟩:=Dh underlying81 h;rw[hc] at hl
 match cs,hl with
 |[c0,c1,c2,c3],_=>
  obtain⟨y0,k0⟩:=hf 0 _ AW rfl opens_3;obtain⟨e0,r0⟩:=k0;obtain rfl:c0=_:=(wK (show[c0]=_ from e0)).1;obtain⟨y1,k1⟩:=hf 1 _ AW rfl opens_3;obtain⟨e1,r1⟩:=k1;obtain rfl:c1=_:=(wK (show[c1]=_ from e1)).1;obtain⟨y2,k2⟩:=hf 2 _ BX.bool rfl opens_4;obtain rfl:c2=_:=(wK (show[c2]=_ from k2)).1;obtain⟨y3,k3⟩:=hf 3 _ BX.bool rfl opens_4;obtain rfl:c3=_:=(wK (show[c3]=_ from k3)).1;exact⟨⟨y0,y1,y2,y3⟩,⟨rfl,⟨r0,r1⟩⟩⟩
theorem opens_69:Et prog 69 (BX.sl FU):=HA (by kernel_rfl) underlying69 opens_81 rfl
theorem opens_71:Et prog 71 DX:=by
 have hc:prog.cellsOf 71=7:=by kernel_rfl
 refine⟨hc,λ{H enc w base spare held fuel cs x} h=>?_⟩;obtain⟨hl,hf⟩:=Dh underlying71 h;rw[hc] at hl
 match cs,hl with
 |[c0,c1,c2,c3,c4,c5,c6],_=>
  obtain⟨y0,k0⟩:=hf 0 _ AW rfl opens_3;obtain⟨e0,r0⟩:=k0;obtain rfl:c0=_:=(wK (show[c0]=_ from e0)).1;obtain⟨y1,k1⟩:=hf 1 _ (BX.sl (BX.sl AW)) rfl opens_67;obtain⟨w1,e1,r1⟩:=k1;obtain rfl:c1=_:=(wK (show[c1]=_ from e1)).1;obtain⟨y2,k2⟩:=hf 2 _ (BX.sl AW) rfl opens_29;obtain⟨w2,e2,r2⟩:=k2;obtain rfl:c2=_:=(wK (show[c2]=_ from e2)).1;obtain⟨y3,k3⟩:=hf 3 _ (BX.sl Gq) rfl opens_68;obtain⟨w3,e3,r3⟩:=k3;obtain rfl:c3=_:=(wK (show[c3]=_ from e3)).1;obtain⟨y4,k4⟩:=hf 4 _ (BX.sl FU) rfl opens_69;obtain⟨w4,e4,r4⟩:=k4;obtain rfl:c4=_:=(wK (show[c4]=_ from e4)).1;obtain⟨y5,k5⟩:=hf 5 _ (BX.sl AW) rfl opens_29;obtain⟨w5,e5,r5⟩:=k5;obtain rfl:c5=_:=(wK (show[c5]=_ from e5)).1;obtain⟨y6,k6⟩:=hf 6 _ (BX.sl AW) rfl opens_29;obtain⟨w6,e6,r6⟩:=k6;obtain rfl:c6=_:=(wK (show[c6]=_ from e6)).1;exact⟨⟨y0,y1,y2,y3,y4,y5,y6⟩,⟨c1,c2,c3,c4,c5,c6,rfl,r0,r1,r2,r3,r4,r5,r6⟩⟩
theorem opens_51:Et prog 51 AC:=by
 have hc:prog.cellsOf 51=2:=by kernel_rfl
 refine⟨hc,λ{H enc w base spare held fuel cs x} h=>?_⟩;obtain⟨hl,hf⟩:=Dh underlying51 h;rw[hc] at hl
 match cs,hl with
 |[c0,c1],_=>
  obtain⟨y0,k0⟩:=hf 0 _ AW rfl opens_3;obtain⟨e0,r0⟩:=k0;obtain rfl:c0=_:=(wK (show[c0]=_ from e0)).1;obtain⟨y1,k1⟩:=hf 1 _ AW rfl opens_3;obtain⟨e1,r1⟩:=k1;obtain rfl:c1=_:=(wK (show[c1]=_ from e1)).1;exact⟨⟨y0,y1⟩,⟨rfl,⟨r0,r1⟩⟩⟩
theorem opens_32:Et prog 32 (BX.sl AC):=HA (by kernel_rfl) underlying32 opens_51 rfl
theorem opens_93:Et prog 93 BU:=by
 have hc:prog.cellsOf 93=4:=by kernel_rfl
 refine⟨hc,λ{H enc w base spare held fuel cs x} h=>?_⟩;obtain⟨hl,hf⟩:=Dh underlying93 h;rw[hc] at hl
 match cs,hl with
 |[c0,c1,c2,c3],_=>
  obtain⟨y0,k0⟩:=hf 0 _ AW rfl opens_3;obtain⟨e0,r0⟩:=k0;obtain rfl:c0=_:=(wK (show[c0]=_ from e0)).1;obtain⟨y1,k1⟩:=hf 1 _ AW rfl opens_3;obtain⟨e1,r1⟩:=k1;obtain rfl:c1=_:=(wK (show[c1]=_ from e1)).1;obtain⟨y2,k2⟩:=hf 2 _ AC rfl opens_51;obtain⟨e2,⟨r2_0,r2_1⟩⟩:=k2;obtain⟨rfl,rfl⟩:c2=_∧c3=_:=by simpa using (show[c2,c3]=_ from e2)
  exact⟨⟨y0,y1,y2⟩,⟨rfl,⟨r0,r1,r2_0,r2_1⟩⟩⟩
theorem opens_33:Et prog 33 (BX.sl BU):=HA (by kernel_rfl) underlying33 opens_93 rfl
theorem opens_97:Et prog 97 AJ:=by
 have hc:prog.cellsOf 97=5:=by kernel_rfl
 refine⟨hc,λ{H enc w base spare held fuel cs x} h=>?_⟩;obtain⟨hl,hf⟩:=Dh underlying97 h;rw[hc] at hl
 match cs,hl with
 |[c0,c1,c2,c3,c4],_=>
  obtain⟨y0,k0⟩:=hf 0 _ AC rfl opens_51;obtain⟨e0,⟨r0_0,r0_1⟩⟩:=k0;obtain⟨rfl,rfl⟩:c0=_∧c1=_:=by simpa using (show[c0,c1]=_ from e0)
  obtain⟨y1,k1⟩:=hf 1 _ AW rfl opens_3;obtain⟨e1,r1⟩:=k1;obtain rfl:c2=_:=(wK (show[c2]=_ from e1)).1;obtain⟨y2,k2⟩:=hf 2 _ AC rfl opens_51;obtain⟨e2,⟨r2_0,r2_1⟩⟩:=k2;obtain⟨rfl,rfl⟩:c3=_∧c4=_:=by simpa using (show[c3,c4]=_ from e2)
  exact⟨⟨y0,y1,y2⟩,⟨rfl,⟨r0_0,r0_1,r1,r2_0,r2_1⟩⟩⟩
theorem opens_34:Et prog 34 (BX.sl AJ):=HA (by kernel_rfl) underlying34 opens_97 rfl
theorem opens_36:Et prog 36 DD:=by
 have hc:prog.cellsOf 36=4:=by kernel_rfl
 refine⟨hc,λ{H enc w base spare held fuel cs x} h=>?_⟩;obtain⟨hl,hf⟩:=Dh underlying36 h;rw[hc] at hl
 match cs,hl with
 |[c0,c1,c2,c3],_=>
  obtain⟨y0,k0⟩:=hf 0 _ AW rfl opens_3;obtain⟨e0,r0⟩:=k0;obtain rfl:c0=_:=(wK (show[c0]=_ from e0)).1;obtain⟨y1,k1⟩:=hf 1 _ (BX.sl AC) rfl opens_32;obtain⟨w1,e1,r1⟩:=k1;obtain rfl:c1=_:=(wK (show[c1]=_ from e1)).1;obtain⟨y2,k2⟩:=hf 2 _ (BX.sl BU) rfl opens_33;obtain⟨w2,e2,r2⟩:=k2;obtain rfl:c2=_:=(wK (show[c2]=_ from e2)).1;obtain⟨y3,k3⟩:=hf 3 _ (BX.sl AJ) rfl opens_34;obtain⟨w3,e3,r3⟩:=k3;obtain rfl:c3=_:=(wK (show[c3]=_ from e3)).1;exact⟨⟨y0,y1,y2,y3⟩,⟨c1,c2,c3,rfl,r0,r1,r2,r3⟩⟩
theorem opens_171:Et prog 171 KF:=by
 have hc:prog.cellsOf 171=2:=by kernel_rfl
 refine⟨hc,λ{H enc w base spare held fuel cs x} h=>?_⟩;obtain⟨hl,hf⟩:=Dh underlying171 h;rw[hc] at hl
 match cs,hl with
 |[c0,c1],_=>
  obtain⟨y0,k0⟩:=hf 0 _ AW rfl opens_3;obtain⟨e0,r0⟩:=k0;obtain rfl:c0=_:=(wK (show[c0]=_ from e0)).1;obtain⟨y1,k1⟩:=hf 1 _ AW rfl opens_3;obtain⟨e1,r1⟩:=k1;obtain rfl:c1=_:=(wK (show[c1]=_ from e1)).1;exact⟨⟨y0,y1⟩,⟨rfl,⟨r0,r1⟩⟩⟩
theorem opens_37:Et prog 37 (BX.sl KF):=HA (by kernel_rfl) underlying37 opens_171 rfl
theorem opens_173:Et prog 173 K8:=by
 have hc:prog.cellsOf 173=2:=by kernel_rfl
 refine⟨hc,λ{H enc w base spare held fuel cs x} h=>?_⟩;obtain⟨hl,hf⟩:=Dh underlying173 h;rw[hc] at hl
 match cs,hl with
 |[c0,c1],_=>
  obtain⟨y0,k0⟩:=hf 0 _ AW rfl opens_3;obtain⟨e0,r0⟩:=k0;obtain rfl:c0=_:=(wK (show[c0]=_ from e0)).1;obtain⟨y1,k1⟩:=hf 1 _ AW rfl opens_3;obtain⟨e1,r1⟩:=k1;obtain rfl:c1=_:=(wK (show[c1]=_ from e1)).1;exact⟨⟨y0,y1⟩,⟨rfl,⟨r0,r1⟩⟩⟩
theorem opens_38:Et prog 38 (BX.sl K8):=HA (by kernel_rfl) underlying38 opens_173 rfl
theorem opens_184:Et prog 184 F3:=by
 have hc:prog.cellsOf 184=4:=by kernel_rfl
 refine⟨hc,λ{H enc w base spare held fuel cs x} h=>?_⟩;obtain⟨hl,hf⟩:=Dh underlying184 h;rw[hc] at hl
 match cs,hl with
 |[c0,c1,c2,c3],_=>
  obtain⟨y0,k0⟩:=hf 0 _ AW rfl opens_3;obtain⟨e0,r0⟩:=k0;obtain rfl:c0=_:=(wK (show[c0]=_ from e0)).1;obtain⟨y1,k1⟩:=hf 1 _ AW rfl opens_3;obtain⟨e1,r1⟩:=k1;obtain rfl:c1=_:=(wK (show[c1]=_ from e1)).1;obtain⟨y2,k2⟩:=hf 2 _ AW rfl opens_3;obtain⟨e2,r2⟩:=k2;obtain rfl:c2=_:=(wK (show[c2]=_ from e2)).1;obtain⟨y3,k3⟩:=hf 3 _ AW rfl opens_3;obtain⟨e3,r3⟩:=k3;obtain rfl:c3=_:=(wK (show[c3]=_ from e3)).1;exact⟨⟨y0,y1,y2,y3⟩,⟨rfl,⟨r0,r1,r2,r3⟩⟩⟩
theorem opens_39:Et prog 39 (BX.sl F3):=HA (by kernel_rfl) underlying39 opens_184 rfl
theorem opens_260:Et prog 260 Lz:=by
 have hc:prog.cellsOf 260=4:=by kernel_rfl
 refine⟨hc,λ{H enc w base spare held fuel cs x} h=>?_⟩;obtain⟨hl,hf⟩:=Dh underlying260 h;rw[hc] at hl
 match cs,hl with
 |[c0,c1,c2,c3],_=>
  obtain⟨y0,k0⟩:=hf 0 _ AW rfl opens_3;obtain⟨e0,r0⟩:=k0;obtain rfl:c0=_:=(wK (show[c0]=_ from e0)).1;obtain⟨y1,k1⟩:=hf 1 _ AW rfl opens_3;obtain⟨e1,r1⟩:=k1;obtain rfl:c1=_:=(wK (show[c1]=_ from e1)).1;obtain⟨y2,k2⟩:=hf 2 _ AW rfl opens_3;obtain⟨e2,r2⟩:=k2;obtain rfl:c2=_:=(wK (show[c2]=_ from e2)).1;obtain⟨y3,k3⟩:=hf 3 _ AW rfl opens_3;obtain⟨e3,r3⟩:=k3;obtain rfl:c3=_:=(wK (show[c3]=_ from e3)).1;exact⟨⟨y0,y1,y2,y3⟩,⟨rfl,⟨r0,r1,r2,r3⟩⟩⟩
theorem opens_40:Et prog 40 (BX.sl Lz):=HA (by kernel_rfl) underlying40 opens_260 rfl
theorem opens_42:Et prog 42 Gr:=by
 have hc:prog.cellsOf 42=5:=by kernel_rfl
 refine⟨hc,λ{H enc w base spare held fuel cs x} h=>?_⟩;obtain⟨hl,hf⟩:=Dh underlying42 h;rw[hc] at hl
 match cs,hl with
 |[c0,c1,c2,c3,c4],_=>
  obtain⟨y0,k0⟩:=hf 0 _ (BX.sl AW) rfl opens_29;obtain⟨w0,e0,r0⟩:=k0;obtain rfl:c0=_:=(wK (show[c0]=_ from e0)).1;obtain⟨y1,k1⟩:=hf 1 _ (BX.sl KF) rfl opens_37;obtain⟨w1,e1,r1⟩:=k1;obtain rfl:c1=_:=(wK (show[c1]=_ from e1)).1;obtain⟨y2,k2⟩:=hf 2 _ (BX.sl K8) rfl opens_38;obtain⟨w2,e2,r2⟩:=k2;obtain rfl:c2=_:=(wK (show[c2]=_ from e2)).1;obtain⟨y3,k3⟩:=hf 3 _ (BX.sl F3) rfl opens_39;obtain⟨w3,e3,r3⟩:=k3;obtain rfl:c3=_:=(wK (show[c3]=_ from e3)).1;obtain⟨y4,k4⟩:=hf 4 _ (BX.sl Lz) rfl opens_40;obtain⟨w4,e4,r4⟩:=k4;obtain rfl:c4=_:=(wK (show[c4]=_ from e4)).1;exact⟨⟨y0,y1,y2,y3,y4⟩,⟨c0,c1,c2,c3,c4,rfl,r0,r1,r2,r3,r4⟩⟩
theorem opens_43:Et prog 43 (BX.sl BX.bool):=HA (by kernel_rfl) underlying43 opens_4 rfl
set_option maxRecDepth 100000 in
theorem htells_holds_lifted (os:Os) (started:os.Started) (H:Type) (enc:TypeId×Value→H):
  ReturnsInHanded {} Tryz.checked os 5 .any (Rows.hullTellsSpec.pre6 enc prog Tryz.f5 Rows.hullTellsRow.domain false) (Rows.hullTellsSpec.post enc prog Tryz.f5 false true false false):=by
 refine returnsInHanded_of_change_sized (C:=Tryz.checked) (by kernel_rfl) started (by kernel_rfl) func5
  (ChangeSpec.witness6 (enc:=enc) (C:=Tryz.checked) false ⟨#[],#[.agg #[.string ByteArray.empty,.slice none 0 0,.int .i64 0,.slice none 0 0,.slice none 0 0,.slice none 0 0,.slice none 0 0,.slice none 0 0,.slice none 0 0,.slice none 0 0,.int .i64 0],.agg #[.int .i64 0,.slice none 0 0,.slice none 0 0,.slice none 0 0,.slice none 0 0,.slice none 0 0,.slice none 0 0],.agg #[.int .i64 0,.slice none 0 0,.slice none 0 0,.slice none 0 0],.agg #[.slice none 0 0,.slice none 0 0,.slice none 0 0,.slice none 0 0,.slice none 0 0],.slice none 0 0,.slice none 0 0],[]⟩ 8 (by kernel_rfl) (by kernel_rfl) (by kernel_rfl) (by kernel_rfl)) ?_
 intro W base args ds gs before hval0 hW hcnd hsz _;have hval:∀(j:Nat) t v,Tryz.f5.params[j]? =some t→args[j]? =some v→Value.okWide prog W .any base t v:=hval0;have hW':=hW;obtain⟨p,q,hA0,hV,rfl,hfz,hnd⟩:=hW;have hA:DataW.TrodAll enc prog W 0 (λ_=>true) true Tryz.f5.params.toList args.toList ds p:=hA0;rw[params5] at hA hval hsz;obtain⟨v0,vs0,d0,ds0,p0,q0,ha0,rfl,rfl,h0,r0⟩:=trodAll_cons hA;obtain⟨v1,vs1,d1,ds1,p1,q1,rfl,rfl,rfl,h1,r1⟩:=trodAll_cons r0;obtain⟨v2,vs2,d2,ds2,p2,q2,rfl,rfl,rfl,h2,r2⟩:=trodAll_cons r1;obtain⟨v3,vs3,d3,ds3,p3,q3,rfl,rfl,rfl,h3,r3⟩:=trodAll_cons r2;obtain⟨v4,vs4,d4,ds4,p4,q4,rfl,rfl,rfl,h4,r4⟩:=trodAll_cons r3;obtain⟨v5,vs5,d5,ds5,p5,q5,rfl,rfl,rfl,h5,r5⟩:=trodAll_cons r4;obtain⟨rfl,rfl,rfl⟩:=trodAll_nil r5;obtain rfl:args= #[v0,v1,v2,v3,v4,v5]:=by cases args;simp_all
 obtain⟨rfl,rfl⟩:=trodVars_none hV;obtain⟨x0,k0⟩:=Vh opens_31 rfl underlying31 (hval 0 31 v0 rfl rfl) h0;obtain⟨x1,k1⟩:=Vh opens_71 rfl underlying71 (hval 1 71 v1 rfl rfl) h1;obtain⟨x2,k2⟩:=Vh opens_36 rfl underlying36 (hval 2 36 v2 rfl rfl) h2;obtain⟨x3,k3⟩:=Vh opens_42 rfl underlying42 (hval 3 42 v3 rfl rfl) h3;obtain⟨x4,k4⟩:=Ya opens_43 rfl rfl (WO underlying43 (hval 4 43 v4 rfl rfl)) h4;obtain⟨x5,k5⟩:=Ya opens_32 rfl rfl (WO underlying32 (hval 5 32 v5 rfl rfl)) h5;have hsw:=λq hq=>yQ (wO.1 hsz q hq);have hR:=reachBytes_lt;have lb0:x2.G.length≤8796093022208:=by
  obtain⟨w0,w1,w2,ev,hex⟩:=DD.ex k2;subst ev;have hb:=dF underlying36 h2 (λq hq=>hsw q (U9 (j:=2) rfl rfl q hq)) (j:=1) rfl underlying32 (by kernel_rfl) rfl hex.2.1;rw[show prog.bytesOf 51=16 by kernel_rfl] at hb;omega
 refine(ZK (htells_ret (St.all W.heap) k0 k1 k2 k3 k4.sl k5.sl lb0)).mono λe W' ⟨he,hb⟩=>⟨_,he,?_⟩
 exact aW (tb:=4) (by kernel_rfl) (by kernel_rfl) hW' (by kernel_rfl) underlying4 rfl rfl rfl rfl hb
theorem htells_holds:Rows.HullTellsSaid:=
 OpenClaim.holds_of_wide 5 Tryz.f5 rfl rfl rfl rfl rfl rfl rfl ⟨rfl,rfl,rfl,rfl,rfl⟩ rfl rfl rfl rfl rfl (by kernel_rfl) func5 (by kernel_rfl)
  (yQ (by kernel_rfl)) (by unfold Func.isWrapper;first|(rw [wG (by decide +kernel)];kernel_rfl)|(rw [wF (by decide +kernel)];exact⟨rfl,rfl⟩))
  (λos started H enc _=>htells_holds_lifted os started H enc)
end htells
end Go.Proofs.YtibidnaedddfdaaGreat
