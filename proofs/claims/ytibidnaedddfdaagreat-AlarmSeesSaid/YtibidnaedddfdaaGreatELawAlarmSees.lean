/- The law AlarmSees holds for every input. No conditions. -/
import Derived.Test.YtibidnaedddfdaaGreatEPureDiv
import Derived.Test.YtibidnaedddfdaaGreatECore32
namespace Go.Proofs.YtibidnaedddfdaaGreat
set_option linter.all false
open Go.ChangeShapes Go.WideShapes Go.ChangeAt Go.RowKit
open Go.Proofs.Tryz
namespace asees
theorem asees_ret {S:Nat→Prop}{L:List HP}{h:AX}(hs:St S L h) {v0:Value}{x0:AF}(k0:Rd S h B7 v0 x0) (x1:Int) (k1:AA x1) {v2:Value}{x2:BV}(k2:Rd S h DL v2 x2) {v3:Value}{x3:(List Ci)}(k3:Sl S h GR v3 x3) {v4:Value}{x4:(List BT)}(k4:Sl S h D2 v4 x4) {v5:Value}{x5:(List Bool)}(k5:Sl S h BU.bool v5 x5) (x6:Int) (k6:AA x6) {v7:Value}{x7:(List BW)}(k7:Sl S h Dj v7 x7) (l0:x0.E.length≤4398046511104) (l1:x2.N.length≤4398046511104) (l2:x3.length≤4398046511104):CD prog 7 #[v0,.int .i64 x1,v2,v3,v4,v5,.int .i64 x6,v7] S h (λv S' h'=>v= .bool true∧St S' L h'):=
 NN hs k0 k1 k2 k3 k4 k5 k6 k7 (WV _ _ _ _ _ _ _ _ l0 l2 l1 (kA k4) (ZY k7))
theorem opens_9:E7 prog 9 BU.str:=Yc (by kernel_rfl) underlying9
theorem opens_22:E7 prog 22 (BU.sl BU.str):=Gt (by kernel_rfl) underlying22 opens_9 rfl
theorem opens_3:E7 prog 3 AY:=Yd (by kernel_rfl) underlying3
theorem opens_90:E7 prog 90 B8:=by
 have hc:prog.cellsOf 90=2:=by kernel_rfl
 refine⟨hc,λ{H enc w base spare held fuel cs x} h=>?_⟩;obtain⟨hl,hf⟩:=D3 underlying90 h;rw[hc] at hl
 match cs,hl with
 |[c0,c1],_=>
  obtain⟨y0,k0⟩:=hf 0 _ AY rfl opens_3;obtain⟨e0,r0⟩:=k0;obtain rfl:c0=_:=(uN (show[c0]=_ from e0)).1;obtain⟨y1,k1⟩:=hf 1 _ AY rfl opens_3;obtain⟨e1,r1⟩:=k1;obtain rfl:c1=_:=(uN (show[c1]=_ from e1)).1;exact⟨⟨y0,y1⟩,⟨rfl,⟨r0,r1⟩⟩⟩
theorem opens_54:E7 prog 54 (BU.sl B8):=Gt (by kernel_rfl) underlying54 opens_90 rfl
theorem opens_29:E7 prog 29 (BU.sl AY):=Gt (by kernel_rfl) underlying29 opens_3 rfl
theorem opens_164:E7 prog 164 MY:=by
 have hc:prog.cellsOf 164=2:=by kernel_rfl
 refine⟨hc,λ{H enc w base spare held fuel cs x} h=>?_⟩;obtain⟨hl,hf⟩:=D3 underlying164 h;rw[hc] at hl
 match cs,hl with
 |[c0,c1],_=>
  obtain⟨y0,k0⟩:=hf 0 _ AY rfl opens_3;obtain⟨e0,r0⟩:=k0;obtain rfl:c0=_:=(uN (show[c0]=_ from e0)).1;obtain⟨y1,k1⟩:=hf 1 _ AY rfl opens_3;obtain⟨e1,r1⟩:=k1;obtain rfl:c1=_:=(uN (show[c1]=_ from e1)).1;exact⟨⟨y0,y1⟩,⟨rfl,⟨r0,r1⟩⟩⟩
theorem opens_55:E7 prog 55 (BU.sl MY):=Gt (by kernel_rfl) underlying55 opens_164 rfl
theorem opens_57:E7 prog 57 B4:=by
 have hc:prog.cellsOf 57=12:=by kernel_rfl
 refine⟨hc,λ{H enc w base spare held fuel cs x} h=>?_⟩;obtain⟨hl,hf⟩:=D3 underlying57 h;rw[hc] at hl
 match cs,hl with
 |[c0,c1,c2,c3,c4,c5,c6,c7,c8,c9,c10,c11],_=>
  obtain⟨y0,k0⟩:=hf 0 _ BU.str rfl opens_9;obtain⟨e0,r0⟩:=k0;obtain rfl:c0=_:=(uN (show[c0]=_ from e0)).1;obtain⟨y1,k1⟩:=hf 1 _ AY rfl opens_3;obtain⟨e1,r1⟩:=k1;obtain rfl:c1=_:=(uN (show[c1]=_ from e1)).1;obtain⟨y2,k2⟩:=hf 2 _ AY rfl opens_3;obtain⟨e2,r2⟩:=k2;obtain rfl:c2=_:=(uN (show[c2]=_ from e2)).1;obtain⟨y3,k3⟩:=hf 3 _ AY rfl opens_3;obtain⟨e3,r3⟩:=k3;obtain rfl:c3=_:=(uN (show[c3]=_ from e3)).1;obtain⟨y4,k4⟩:=hf 4 _ (BU.sl B8) rfl opens_54;obtain⟨w4,e4,r4⟩:=k4;obtain rfl:c4=_:=(uN (show[c4]=_ from e4)).1;obtain⟨y5,k5⟩:=hf 5 _ (BU.sl AY) rfl opens_29;obtain⟨w5,e5,r5⟩:=k5;obtain rfl:c5=_:=(uN (show[c5]=_ from e5)).1;obtain⟨y6,k6⟩:=hf 6 _ AY rfl opens_3;obtain⟨e6,r6⟩:=k6;obtain rfl:c6=_:=(uN (show[c6]=_ from e6)).1;obtain⟨y7,k7⟩:=hf 7 _ AY rfl opens_3;obtain⟨e7,r7⟩:=k7;obtain rfl:c7=_:=(uN (show[c7]=_ from e7)).1;obtain⟨y8,k8⟩:=hf 8 _ AY rfl opens_3;obtain⟨e8,r8⟩:=k8;obtain rfl:c8=_:=(uN (show[c8]=_ from e8)).1;obtain⟨y9,k9⟩:=hf 9 _ AY rfl opens_3;obtain⟨e9,r9⟩:=k9;obtain rfl:c9=_:=(uN (show[c9]=_ from e9)).1;obtain⟨y10,k10⟩:=hf 10 _ AY rfl opens_3;obtain⟨e10,r10⟩:=k10;obtain rfl:c10=_:=(uN (show[c10]=_ from e10)).1;obtain⟨y11,k11⟩:=hf 11 _ (BU.sl MY) rfl opens_55;obtain⟨w11,e11,r11⟩:=k11;obtain rfl:c11=_:=(uN (show[c11]=_ from e11)).1;exact⟨⟨y0,y1,y2,y3,y4,y5,y6,y7,y8,y9,y10,y11⟩,⟨c4,c5,c11,rfl,r0,r1,r2,r3,r4,r5,r6,r7,r8,r9,r10,r11⟩⟩
theorem opens_23:E7 prog 23 (BU.sl B4):=Gt (by kernel_rfl) underlying23 opens_57 rfl
theorem opens_100:E7 prog 100 MZ:=by
 have hc:prog.cellsOf 100=2:=by kernel_rfl
 refine⟨hc,λ{H enc w base spare held fuel cs x} h=>?_⟩;obtain⟨hl,hf⟩:=D3 underlying100 h;rw[hc] at hl
 match cs,hl with
 |[c0,c1],_=>
  obtain⟨y0,k0⟩:=hf 0 _ (BU.sl B8) rfl opens_54;obtain⟨w0,e0,r0⟩:=k0;obtain rfl:c0=_:=(uN (show[c0]=_ from e0)).1;obtain⟨y1,k1⟩:=hf 1 _ (BU.sl B8) rfl opens_54;obtain⟨w1,e1,r1⟩:=k1;obtain rfl:c1=_:=(uN (show[c1]=_ from e1)).1;exact⟨⟨y0,y1⟩,⟨c0,c1,rfl,r0,r1⟩⟩
theorem opens_102:E7 prog 102 BI:=by
 have hc:prog.cellsOf 102=18:=by kernel_rfl
 refine⟨hc,λ{H enc w base spare held fuel cs x} h=>?_⟩;obtain⟨hl,hf⟩:=D3 underlying102 h;rw[hc] at hl
 match cs,hl with
 |[c0,c1,c2,c3,c4,c5,c6,c7,c8,c9,c10,c11,c12,c13,c14,c15,c16,c17],_=>
  obtain⟨y0,k0⟩:=hf 0 _ BU.str rfl opens_9;obtain⟨e0,r0⟩:=k0;obtain rfl:c0=_:=(uN (show[c0]=_ from e0)).1;obtain⟨y1,k1⟩:=hf 1 _ AY rfl opens_3;obtain⟨e1,r1⟩:=k1;obtain rfl:c1=_:=(uN (show[c1]=_ from e1)).1;obtain⟨y2,k2⟩:=hf 2 _ AY rfl opens_3;obtain⟨e2,r2⟩:=k2;obtain rfl:c2=_:=(uN (show[c2]=_ from e2)).1;obtain⟨y3,k3⟩:=hf 3 _ AY rfl opens_3;obtain⟨e3,r3⟩:=k3;obtain rfl:c3=_:=(uN (show[c3]=_ from e3)).1;obtain⟨y4,k4⟩:=hf 4 _ (BU.sl B8) rfl opens_54;obtain⟨w4,e4,r4⟩:=k4;obtain rfl:c4=_:=(uN (show[c4]=_ from e4)).1;obtain⟨y5,k5⟩:=hf 5 _ MZ rfl opens_100;obtain⟨w5_0,w5_1,e5,r5_0,r5_1⟩:=k5;obtain⟨rfl,rfl⟩:c5=_∧c6=_:=by simpa using (show[c5,c6]=_ from e5)
  obtain⟨y6,k6⟩:=hf 6 _ AY rfl opens_3;obtain⟨e6,r6⟩:=k6;obtain rfl:c7=_:=(uN (show[c7]=_ from e6)).1;obtain⟨y7,k7⟩:=hf 7 _ AY rfl opens_3;obtain⟨e7,r7⟩:=k7;obtain rfl:c8=_:=(uN (show[c8]=_ from e7)).1;obtain⟨y8,k8⟩:=hf 8 _ AY rfl opens_3;obtain⟨e8,r8⟩:=k8;obtain rfl:c9=_:=(uN (show[c9]=_ from e8)).1;obtain⟨y9,k9⟩:=hf 9 _ AY rfl opens_3;obtain⟨e9,r9⟩:=k9;obtain rfl:c10=_:=(uN (show[c10]=_ from e9)).1;obtain⟨y10,k10⟩:=hf 10 _ AY rfl opens_3;obtain⟨e10,r10⟩:=k10;obtain rfl:c11=_:=(uN (show[c11]=_ from e10)).1;obtain⟨y11,k11⟩:=hf 11 _ AY rfl opens_3;obtain⟨e11,r11⟩:=k11;obtain rfl:c12=_:=(uN (show[c12]=_ from e11)).1;obtain⟨y12,k12⟩:=hf 12 _ AY rfl opens_3;obtain⟨e12,r12⟩:=k12;obtain rfl:c13=_:=(uN (show[c13]=_ from e12)).1;obtain⟨y13,k13⟩:=hf 13 _ AY rfl opens_3;obtain⟨e13,r13⟩:=k13;obtain rfl:c14=_:=(uN (show[c14]=_ from e13)).1;obtain⟨y14,k14⟩:=hf 14 _ AY rfl opens_3;obtain⟨e14,r14⟩:=k14;obtain rfl:c15=_:=(uN (show[c15]=_ from e14)).1;obtain⟨y15,k15⟩:=hf 15 _ AY rfl opens_3;obtain⟨e15,r15⟩:=k15;obtain rfl:c16=_:=(uN (show[c16]=_ from e15)).1;obtain⟨y16,k16⟩:=hf 16 _ AY rfl opens_3;obtain⟨e16,r16⟩:=k16;obtain rfl:c17=_:=(uN (show[c17]=_ from e16)).1;exact⟨⟨y0,y1,y2,y3,y4,y5,y6,y7,y8,y9,y10,y11,y12,y13,y14,y15,y16⟩,⟨c4,c5,c6,rfl,r0,r1,r2,r3,r4,r5_0,r5_1,r6,r7,r8,r9,r10,r11,r12,r13,r14,r15,r16⟩⟩
theorem opens_24:E7 prog 24 (BU.sl BI):=Gt (by kernel_rfl) underlying24 opens_102 rfl
theorem opens_114:E7 prog 114 Dn:=by
 have hc:prog.cellsOf 114=7:=by kernel_rfl
 refine⟨hc,λ{H enc w base spare held fuel cs x} h=>?_⟩;obtain⟨hl,hf⟩:=D3 underlying114 h;rw[hc] at hl
 match cs,hl with
 |[c0,c1,c2,c3,c4,c5,c6],_=>
  obtain⟨y0,k0⟩:=hf 0 _ BU.str rfl opens_9;obtain⟨e0,r0⟩:=k0;obtain rfl:c0=_:=(uN (show[c0]=_ from e0)).1;obtain⟨y1,k1⟩:=hf 1 _ AY rfl opens_3;obtain⟨e1,r1⟩:=k1;obtain rfl:c1=_:=(uN (show[c1]=_ from e1)).1;obtain⟨y2,k2⟩:=hf 2 _ AY rfl opens_3;obtain⟨e2,r2⟩:=k2;obtain rfl:c2=_:=(uN (show[c2]=_ from e2)).1;obtain⟨y3,k3⟩:=hf 3 _ AY rfl opens_3;obtain⟨e3,r3⟩:=k3;obtain rfl:c3=_:=(uN (show[c3]=_ from e3)).1;obtain⟨y4,k4⟩:=hf 4 _ AY rfl opens_3;obtain⟨e4,r4⟩:=k4;obtain rfl:c4=_:=(uN (show[c4]=_ from e4)).1;obtain⟨y5,k5⟩:=hf 5 _ AY rfl opens_3;obtain⟨e5,r5⟩:=k5;obtain rfl:c5=_:=(uN (show[c5]=_ from e5)).1;obtain⟨y6,k6⟩:=hf 6 _ AY rfl opens_3;obtain⟨e6,r6⟩:=k6;obtain rfl:c6=_:=(uN (show[c6]=_ from e6)).1;exact⟨⟨y0,y1,y2,y3,y4,y5,y6⟩,⟨rfl,⟨r0,r1,r2,r3,r4,r5,r6⟩⟩⟩
theorem opens_25:E7 prog 25 (BU.sl Dn):=Gt (by kernel_rfl) underlying25 opens_114 rfl
theorem opens_147:E7 prog 147 De:=by
 have hc:prog.cellsOf 147=5:=by kernel_rfl
 refine⟨hc,λ{H enc w base spare held fuel cs x} h=>?_⟩;obtain⟨hl,hf⟩:=D3 underlying147 h;rw[hc] at hl
 match cs,hl with
 |[c0,c1,c2,c3,c4],_=>
  obtain⟨y0,k0⟩:=hf 0 _ BU.str rfl opens_9;obtain⟨e0,r0⟩:=k0;obtain rfl:c0=_:=(uN (show[c0]=_ from e0)).1;obtain⟨y1,k1⟩:=hf 1 _ AY rfl opens_3;obtain⟨e1,r1⟩:=k1;obtain rfl:c1=_:=(uN (show[c1]=_ from e1)).1;obtain⟨y2,k2⟩:=hf 2 _ AY rfl opens_3;obtain⟨e2,r2⟩:=k2;obtain rfl:c2=_:=(uN (show[c2]=_ from e2)).1;obtain⟨y3,k3⟩:=hf 3 _ AY rfl opens_3;obtain⟨e3,r3⟩:=k3;obtain rfl:c3=_:=(uN (show[c3]=_ from e3)).1;obtain⟨y4,k4⟩:=hf 4 _ AY rfl opens_3;obtain⟨e4,r4⟩:=k4;obtain rfl:c4=_:=(uN (show[c4]=_ from e4)).1;exact⟨⟨y0,y1,y2,y3,y4⟩,⟨rfl,⟨r0,r1,r2,r3,r4⟩⟩⟩
theorem opens_26:E7 prog 26 (BU.sl De):=Gt (by kernel_rfl) underlying26 opens_147 rfl
theorem opens_160:E7 prog 160 GQ:=by
 have hc:prog.cellsOf 160=7:=by kernel_rfl
 refine⟨hc,λ{H enc w base spare held fuel cs x} h=>?_⟩;obtain⟨hl,hf⟩:=D3 underlying160 h;rw[hc] at hl
 match cs,hl with
 |[c0,c1,c2,c3,c4,c5,c6],_=>
  obtain⟨y0,k0⟩:=hf 0 _ BU.str rfl opens_9;obtain⟨e0,r0⟩:=k0;obtain rfl:c0=_:=(uN (show[c0]=_ from e0)).1;obtain⟨y1,k1⟩:=hf 1 _ AY rfl opens_3;obtain⟨e1,r1⟩:=k1;obtain rfl:c1=_:=(uN (show[c1]=_ from e1)).1;obtain⟨y2,k2⟩:=hf 2 _ AY rfl opens_3;obtain⟨e2,r2⟩:=k2;obtain rfl:c2=_:=(uN (show[c2]=_ from e2)).1;obtain⟨y3,k3⟩:=hf 3 _ AY rfl opens_3;obtain⟨e3,r3⟩:=k3;obtain rfl:c3=_:=(uN (show[c3]=_ from e3)).1;obtain⟨y4,k4⟩:=hf 4 _ AY rfl opens_3;obtain⟨e4,r4⟩:=k4;obtain rfl:c4=_:=(uN (show[c4]=_ from e4)).1;obtain⟨y5,k5⟩:=hf 5 _ AY rfl opens_3;obtain⟨e5,r5⟩:=k5;obtain rfl:c5=_:=(uN (show[c5]=_ from e5)).1;obtain⟨y6,k6⟩:=hf 6 _ AY rfl opens_3;obtain⟨e6,r6⟩:=k6;obtain rfl:c6=_:=(uN (show[c6]=_ from e6)).1;exact⟨⟨y0,y1,y2,y3,y4,y5,y6⟩,⟨rfl,⟨r0,r1,r2,r3,r4,r5,r6⟩⟩⟩
theorem opens_27:E7 prog 27 (BU.sl GQ):=Gt (by kernel_rfl) underlying27 opens_160 rfl
theorem opens_158:E7 prog 158 DB:=by
 have hc:prog.cellsOf 158=2:=by kernel_rfl
 refine⟨hc,λ{H enc w base spare held fuel cs x} h=>?_⟩;obtain⟨hl,hf⟩:=D3 underlying158 h;rw[hc] at hl
 match cs,hl with
 |[c0,c1],_=>
  obtain⟨y0,k0⟩:=hf 0 _ BU.str rfl opens_9;obtain⟨e0,r0⟩:=k0;obtain rfl:c0=_:=(uN (show[c0]=_ from e0)).1;obtain⟨y1,k1⟩:=hf 1 _ AY rfl opens_3;obtain⟨e1,r1⟩:=k1;obtain rfl:c1=_:=(uN (show[c1]=_ from e1)).1;exact⟨⟨y0,y1⟩,⟨rfl,⟨r0,r1⟩⟩⟩
theorem opens_28:E7 prog 28 (BU.sl DB):=Gt (by kernel_rfl) underlying28 opens_158 rfl
theorem opens_31:E7 prog 31 B7:=by
 have hc:prog.cellsOf 31=11:=by kernel_rfl
 refine⟨hc,λ{H enc w base spare held fuel cs x} h=>?_⟩;obtain⟨hl,hf⟩:=D3 underlying31 h;rw[hc] at hl
 match cs,hl with
 |[c0,c1,c2,c3,c4,c5,c6,c7,c8,c9,c10],_=>
  obtain⟨y0,k0⟩:=hf 0 _ BU.str rfl opens_9;obtain⟨e0,r0⟩:=k0;obtain rfl:c0=_:=(uN (show[c0]=_ from e0)).1;obtain⟨y1,k1⟩:=hf 1 _ (BU.sl BU.str) rfl opens_22;obtain⟨w1,e1,r1⟩:=k1;obtain rfl:c1=_:=(uN (show[c1]=_ from e1)).1;obtain⟨y2,k2⟩:=hf 2 _ AY rfl opens_3;obtain⟨e2,r2⟩:=k2;obtain rfl:c2=_:=(uN (show[c2]=_ from e2)).1;obtain⟨y3,k3⟩:=hf 3 _ (BU.sl B4) rfl opens_23;obtain⟨w3,e3,r3⟩:=k3;obtain rfl:c3=_:=(uN (show[c3]=_ from e3)).1;obtain⟨y4,k4⟩:=hf 4 _ (BU.sl BI) rfl opens_24;obtain⟨w4,e4,r4⟩:=k4;obtain rfl:c4=_:=(uN (show[c4]=_ from e4)).1;obtain⟨y5,k5⟩:=hf 5 _ (BU.sl Dn) rfl opens_25;obtain⟨w5,e5,r5⟩:=k5;obtain rfl:c5=_:=(uN (show[c5]=_ from e5)).1;obtain⟨y6,k6⟩:=hf 6 _ (BU.sl De) rfl opens_26;obtain⟨w6,e6,r6⟩:=k6;obtain rfl:c6=_:=(uN (show[c6]=_ from e6)).1;obtain⟨y7,k7⟩:=hf 7 _ (BU.sl GQ) rfl opens_27;obtain⟨w7,e7,r7⟩:=k7;obtain rfl:c7=_:=(uN (show[c7]=_ from e7)).1;obtain⟨y8,k8⟩:=hf 8 _ (BU.sl DB) rfl opens_28;obtain⟨w8,e8,r8⟩:=k8;obtain rfl:c8=_:=(uN (show[c8]=_ from e8)).1;obtain⟨y9,k9⟩:=hf 9 _ (BU.sl AY) rfl opens_29;obtain⟨w9,e9,r9⟩:=k9;obtain rfl:c9=_:=(uN (show[c9]=_ from e9)).1;obtain⟨y10,k10⟩:=hf 10 _ AY rfl opens_3;obtain⟨e10,r10⟩:=k10;obtain rfl:c10=_:=(uN (show[c10]=_ from e10)).1;exact⟨⟨y0,y1,y2,y3,y4,y5,y6,y7,y8,y9,y10⟩,⟨c1,c3,c4,c5,c6,c7,c8,c9,rfl,r0,r1,r2,r3,r4,r5,r6,r7,r8,r9,r10⟩⟩
theorem opens_51:E7 prog 51 AC:=by
 have hc:prog.cellsOf 51=2:=by kernel_rfl
 refine⟨hc,λ{H enc w base spare held fuel cs x} h=>?_⟩;obtain⟨hl,hf⟩:=D3 underlying51 h;rw[hc] at hl
 match cs,hl with
 |[c0,c1],_=>
  obtain⟨y0,k0⟩:=hf 0 _ AY rfl opens_3;obtain⟨e0,r0⟩:=k0;obtain rfl:c0=_:=(uN (show[c0]=_ from e0)).1;obtain⟨y1,k1⟩:=hf 1 _ AY rfl opens_3;obtain⟨e1,r1⟩:=k1;obtain rfl:c1=_:=(uN (show[c1]=_ from e1)).1;exact⟨⟨y0,y1⟩,⟨rfl,⟨r0,r1⟩⟩⟩
theorem opens_32:E7 prog 32 (BU.sl AC):=Gt (by kernel_rfl) underlying32 opens_51 rfl
theorem opens_93:E7 prog 93 BS:=by
 have hc:prog.cellsOf 93=4:=by kernel_rfl
 refine⟨hc,λ{H enc w base spare held fuel cs x} h=>?_⟩;obtain⟨hl,hf⟩:=D3 underlying93 h;rw[hc] at hl
 match cs,hl with
 |[c0,c1,c2,c3],_=>
  obtain⟨y0,k0⟩:=hf 0 _ AY rfl opens_3;obtain⟨e0,r0⟩:=k0;obtain rfl:c0=_:=(uN (show[c0]=_ from e0)).1;obtain⟨y1,k1⟩:=hf 1 _ AY rfl opens_3;obtain⟨e1,r1⟩:=k1;obtain rfl:c1=_:=(uN (show[c1]=_ from e1)).1;obtain⟨y2,k2⟩:=hf 2 _ AC rfl opens_51;obtain⟨e2,⟨r2_0,r2_1⟩⟩:=k2;obtain⟨rfl,rfl⟩:c2=_∧c3=_:=by simpa using (show[c2,c3]=_ from e2)
  exact⟨⟨y0,y1,y2⟩,⟨rfl,⟨r0,r1,r2_0,r2_1⟩⟩⟩
theorem opens_33:E7 prog 33 (BU.sl BS):=Gt (by kernel_rfl) underlying33 opens_93 rfl
theorem opens_97:E7 prog 97 AM:=by
 have hc:prog.cellsOf 97=5:=by kernel_rfl
 refine⟨hc,λ{H enc w base spare held fuel cs x} h=>?_⟩;obtain⟨hl,hf⟩:=D3 underlying97 h;rw[hc] at hl
 match cs,hl with
 |[c0,c1,c2,c3,c4],_=>
  obtain⟨y0,k0⟩:=hf 0 _ AC rfl opens_51;obtain⟨e0,⟨r0_0,r0_1⟩⟩:=k0;obtain⟨rfl,rfl⟩:c0=_∧c1=_:=by simpa using (show[c0,c1]=_ from e0)
  obtain⟨y1,k1⟩:=hf 1 _ AY rfl opens_3;obtain⟨e1,r1⟩:=k1;obtain rfl:c2=_:=(uN (show[c2]=_ from e1)).1;obtain⟨y2,k2⟩:=hf 2 _ AC rfl opens_51;obtain⟨e2,⟨r2_0,r2_1⟩⟩:=k2;obtain⟨rfl,rfl⟩:c3=_∧c4=_:=by simpa using (show[c3,c4]=_ from e2)
  exact⟨⟨y0,y1,y2⟩,⟨rfl,⟨r0_0,r0_1,r1,r2_0,r2_1⟩⟩⟩
theorem opens_34:E7 prog 34 (BU.sl AM):=Gt (by kernel_rfl) underlying34 opens_97 rfl
theorem opens_36:E7 prog 36 DL:=by
 have hc:prog.cellsOf 36=4:=by kernel_rfl
 refine⟨hc,λ{H enc w base spare held fuel cs x} h=>?_⟩;obtain⟨hl,hf⟩:=D3 underlying36 h;rw[hc] at hl
 match cs,hl with
 |[c0,c1,c2,c3],_=>
  obtain⟨y0,k0⟩:=hf 0 _ AY rfl opens_3;obtain⟨e0,r0⟩:=k0;obtain rfl:c0=_:=(uN (show[c0]=_ from e0)).1;obtain⟨y1,k1⟩:=hf 1 _ (BU.sl AC) rfl opens_32;obtain⟨w1,e1,r1⟩:=k1;obtain rfl:c1=_:=(uN (show[c1]=_ from e1)).1;obtain⟨y2,k2⟩:=hf 2 _ (BU.sl BS) rfl opens_33;obtain⟨w2,e2,r2⟩:=k2;obtain rfl:c2=_:=(uN (show[c2]=_ from e2)).1;obtain⟨y3,k3⟩:=hf 3 _ (BU.sl AM) rfl opens_34;obtain⟨w3,e3,r3⟩:=k3;obtain rfl:c3=_:=(uN (show[c3]=_ from e3)).1;exact⟨⟨y0,y1,y2,y3⟩,⟨c1,c2,c3,rfl,r0,r1,r2,r3⟩⟩
theorem opens_121:E7 prog 121 (BU.sl (BU.sl AC)):=Gt (by kernel_rfl) underlying121 opens_32 rfl
theorem opens_123:E7 prog 123 GR:=by
 have hc:prog.cellsOf 123=3:=by kernel_rfl
 refine⟨hc,λ{H enc w base spare held fuel cs x} h=>?_⟩;obtain⟨hl,hf⟩:=D3 underlying123 h;rw[hc] at hl
 match cs,hl with
 |[c0,c1,c2],_=>
  obtain⟨y0,k0⟩:=hf 0 _ AY rfl opens_3;obtain⟨e0,r0⟩:=k0;obtain rfl:c0=_:=(uN (show[c0]=_ from e0)).1;obtain⟨y1,k1⟩:=hf 1 _ AY rfl opens_3;obtain⟨e1,r1⟩:=k1;obtain rfl:c1=_:=(uN (show[c1]=_ from e1)).1;obtain⟨y2,k2⟩:=hf 2 _ (BU.sl (BU.sl AC)) rfl opens_121;obtain⟨w2,e2,r2⟩:=k2;obtain rfl:c2=_:=(uN (show[c2]=_ from e2)).1;exact⟨⟨y0,y1,y2⟩,⟨c2,rfl,r0,r1,r2⟩⟩
theorem opens_59:E7 prog 59 (BU.sl GR):=Gt (by kernel_rfl) underlying59 opens_123 rfl
theorem opens_171:E7 prog 171 JB:=by
 have hc:prog.cellsOf 171=2:=by kernel_rfl
 refine⟨hc,λ{H enc w base spare held fuel cs x} h=>?_⟩;obtain⟨hl,hf⟩:=D3 underlying171 h;rw[hc] at hl
 match cs,hl with
 |[c0,c1],_=>
  obtain⟨y0,k0⟩:=hf 0 _ AY rfl opens_3;obtain⟨e0,r0⟩:=k0;obtain rfl:c0=_:=(uN (show[c0]=_ from e0)).1;obtain⟨y1,k1⟩:=hf 1 _ AY rfl opens_3;obtain⟨e1,r1⟩:=k1;obtain rfl:c1=_:=(uN (show[c1]=_ from e1)).1;exact⟨⟨y0,y1⟩,⟨rfl,⟨r0,r1⟩⟩⟩
theorem opens_37:E7 prog 37 (BU.sl JB):=Gt (by kernel_rfl) underlying37 opens_171 rfl
theorem opens_173:E7 prog 173 KI:=by
 have hc:prog.cellsOf 173=2:=by kernel_rfl
 refine⟨hc,λ{H enc w base spare held fuel cs x} h=>?_⟩;obtain⟨hl,hf⟩:=D3 underlying173 h;rw[hc] at hl
 match cs,hl with
 |[c0,c1],_=>
  obtain⟨y0,k0⟩:=hf 0 _ AY rfl opens_3;obtain⟨e0,r0⟩:=k0;obtain rfl:c0=_:=(uN (show[c0]=_ from e0)).1;obtain⟨y1,k1⟩:=hf 1 _ AY rfl opens_3;obtain⟨e1,r1⟩:=k1;obtain rfl:c1=_:=(uN (show[c1]=_ from e1)).1;exact⟨⟨y0,y1⟩,⟨rfl,⟨r0,r1⟩⟩⟩
theorem opens_38:E7 prog 38 (BU.sl KI):=Gt (by kernel_rfl) underlying38 opens_173 rfl
theorem opens_184:E7 prog 184 FX:=by
 have hc:prog.cellsOf 184=4:=by kernel_rfl
 refine⟨hc,λ{H enc w base spare held fuel cs x} h=>?_⟩;obtain⟨hl,hf⟩:=D3 underlying184 h;rw[hc] at hl
 match cs,hl with
 |[c0,c1,c2,c3],_=>
  obtain⟨y0,k0⟩:=hf 0 _ AY rfl opens_3;obtain⟨e0,r0⟩:=k0;obtain rfl:c0=_:=(uN (show[c0]=_ from e0)).1;obtain⟨y1,k1⟩:=hf 1 _ AY rfl opens_3;obtain⟨e1,r1⟩:=k1;obtain rfl:c1=_:=(uN (show[c1]=_ from e1)).1;obtain⟨y2,k2⟩:=hf 2 _ AY rfl opens_3;obtain⟨e2,r2⟩:=k2;obtain rfl:c2=_:=(uN (show[c2]=_ from e2)).1;obtain⟨y3,k3⟩:=hf 3 _ AY rfl opens_3;obtain⟨e3,r3⟩:=k3;obtain rfl:c3=_:=(uN (show[c3]=_ from e3)).1;exact⟨⟨y0,y1,y2,y3⟩,⟨rfl,⟨r0,r1,r2,r3⟩⟩⟩
theorem opens_39:E7 prog 39 (BU.sl FX):=Gt (by kernel_rfl) underlying39 opens_184 rfl
theorem opens_260:E7 prog 260 KZ:=by
 have hc:prog.cellsOf 260=4:=by kernel_rfl
 refine⟨hc,λ{H enc w base spare held fuel cs x} h=>?_⟩;obtain⟨hl,hf⟩:=D3 underlying260 h;rw[hc] at hl
 match cs,hl with
 |[c0,c1,c2,c3],_=>
  obtain⟨y0,k0⟩:=hf 0 _ AY rfl opens_3;obtain⟨e0,r0⟩:=k0;obtain rfl:c0=_:=(uN (show[c0]=_ from e0)).1;obtain⟨y1,k1⟩:=hf 1 _ AY rfl opens_3;obtain⟨e1,r1⟩:=k1;obtain rfl:c1=_:=(uN (show[c1]=_ from e1)).1;obtain⟨y2,k2⟩:=hf 2 _ AY rfl opens_3;obtain⟨e2,r2⟩:=k2;obtain rfl:c2=_:=(uN (show[c2]=_ from e2)).1;obtain⟨y3,k3⟩:=hf 3 _ AY rfl opens_3;obtain⟨e3,r3⟩:=k3;obtain rfl:c3=_:=(uN (show[c3]=_ from e3)).1;exact⟨⟨y0,y1,y2,y3⟩,⟨rfl,⟨r0,r1,r2,r3⟩⟩⟩
theorem opens_40:E7 prog 40 (BU.sl KZ):=Gt (by kernel_rfl) underlying40 opens_260 rfl
theorem opens_42:E7 prog 42 D2:=by
 have hc:prog.cellsOf 42=5:=by kernel_rfl
 refine⟨hc,λ{H enc w base spare held fuel cs x} h=>?_⟩;obtain⟨hl,hf⟩:=D3 underlying42 h;rw[hc] at hl
 match cs,hl with
 |[c0,c1,c2,c3,c4],_=>
  obtain⟨y0,k0⟩:=hf 0 _ (BU.sl AY) rfl opens_29;obtain⟨w0,e0,r0⟩:=k0;obtain rfl:c0=_:=(uN (show[c0]=_ from e0)).1;obtain⟨y1,k1⟩:=hf 1 _ (BU.sl JB) rfl opens_37;obtain⟨w1,e1,r1⟩:=k1;obtain rfl:c1=_:=(uN (show[c1]=_ from e1)).1;obtain⟨y2,k2⟩:=hf 2 _ (BU.sl KI) rfl opens_38;obtain⟨w2,e2,r2⟩:=k2;obtain rfl:c2=_:=(uN (show[c2]=_ from e2)).1;obtain⟨y3,k3⟩:=hf 3 _ (BU.sl FX) rfl opens_39;obtain⟨w3,e3,r3⟩:=k3;obtain rfl:c3=_:=(uN (show[c3]=_ from e3)).1;obtain⟨y4,k4⟩:=hf 4 _ (BU.sl KZ) rfl opens_40;obtain⟨w4,e4,r4⟩:=k4;obtain rfl:c4=_:=(uN (show[c4]=_ from e4)).1;exact⟨⟨y0,y1,y2,y3,y4⟩,⟨c0,c1,c2,c3,c4,rfl,r0,r1,r2,r3,r4⟩⟩
theorem opens_60:E7 prog 60 (BU.sl D2):=Gt (by kernel_rfl) underlying60 opens_42 rfl
theorem opens_4:E7 prog 4 BU.bool:=Wb (by kernel_rfl) underlying4
theorem opens_43:E7 prog 43 (BU.sl BU.bool):=Gt (by kernel_rfl) underlying43 opens_4 rfl
theorem opens_145:E7 prog 145 Dj:=by
 have hc:prog.cellsOf 145=4:=by kernel_rfl
 refine⟨hc,λ{H enc w base spare held fuel cs x} h=>?_⟩;obtain⟨hl,hf⟩:=D3 underlying145 h;rw[hc] at hl
 match cs,hl with
 |[c0,c1,c2,c3],_=>
  obtain⟨y0,k0⟩:=hf 0 _ AY rfl opens_3;obtain⟨e0,r0⟩:=k0;obtain rfl:c0=_:=(uN (show[c0]=_ from e0)).1;obtain⟨y1,k1⟩:=hf 1 _ AY rfl opens_3;obtain⟨e1,r1⟩:=k1;obtain rfl:c1=_:=(uN (show[c1]=_ from e1)).1;obtain⟨y2,k2⟩:=hf 2 _ AC rfl opens_51;obtain⟨e2,⟨r2_0,r2_1⟩⟩:=k2;obtain⟨rfl,rfl⟩:c2=_∧c3=_:=by simpa using (show[c2,c3]=_ from e2)
  exact⟨⟨y0,y1,y2⟩,⟨rfl,⟨r0,r1,r2_0,r2_1⟩⟩⟩
theorem opens_86:E7 prog 86 (BU.sl Dj):=Gt (by kernel_rfl) underlying86 opens_145 rfl
set_option maxRecDepth 100000 in
theorem asees_holds_lifted (os:Os) (started:os.Started) (H:Type) (enc:TypeId×Value→H):
  ReturnsInHanded {} Tryz.checked os 7 .any (Rows.alarmSeesSpec.pre6 enc prog Tryz.f7 Rows.alarmSeesRow.domain false) (Rows.alarmSeesSpec.post enc prog Tryz.f7 false true false false):=by
 refine returnsInHanded_of_change_sized (C:=Tryz.checked) (by kernel_rfl) started (by kernel_rfl) func7
  (ChangeSpec.witness6 (enc:=enc) (C:=Tryz.checked) false ⟨#[],#[.agg #[.string ByteArray.empty,.slice none 0 0,.int .i64 0,.slice none 0 0,.slice none 0 0,.slice none 0 0,.slice none 0 0,.slice none 0 0,.slice none 0 0,.slice none 0 0,.int .i64 0],.int .i64 0,.agg #[.int .i64 0,.slice none 0 0,.slice none 0 0,.slice none 0 0],.slice none 0 0,.slice none 0 0,.slice none 0 0,.int .i64 0,.slice none 0 0],[]⟩ 8 (by kernel_rfl) (by kernel_rfl) (by kernel_rfl) (by kernel_rfl)) ?_
 intro W base args ds gs before hval0 hW hcnd hsz _;have hval:∀(j:Nat) t v,Tryz.f7.params[j]? =some t→args[j]? =some v→Value.okWide prog W .any base t v:=hval0;have hW':=hW;obtain⟨p,q,hA0,hV,rfl,hfz,hnd⟩:=hW;have hA:DataW.TrodAll enc prog W 0 (λ_=>true) true Tryz.f7.params.toList args.toList ds p:=hA0;rw[params7] at hA hval hsz;obtain⟨v0,vs0,d0,ds0,p0,q0,ha0,rfl,rfl,h0,r0⟩:=trodAll_cons hA;obtain⟨v1,vs1,d1,ds1,p1,q1,rfl,rfl,rfl,h1,r1⟩:=trodAll_cons r0;obtain⟨v2,vs2,d2,ds2,p2,q2,rfl,rfl,rfl,h2,r2⟩:=trodAll_cons r1;obtain⟨v3,vs3,d3,ds3,p3,q3,rfl,rfl,rfl,h3,r3⟩:=trodAll_cons r2;obtain⟨v4,vs4,d4,ds4,p4,q4,rfl,rfl,rfl,h4,r4⟩:=trodAll_cons r3;obtain⟨v5,vs5,d5,ds5,p5,q5,rfl,rfl,rfl,h5,r5⟩:=trodAll_cons r4;obtain⟨v6,vs6,d6,ds6,p6,q6,rfl,rfl,rfl,h6,r6⟩:=trodAll_cons r5;obtain⟨v7,vs7,d7,ds7,p7,q7,rfl,rfl,rfl,h7,r7⟩:=trodAll_cons r6;obtain⟨rfl,rfl,rfl⟩:=trodAll_nil r7;obtain rfl:args= #[v0,v1,v2,v3,v4,v5,v6,v7]:=by cases args;simp_all
 obtain⟨rfl,rfl⟩:=trodVars_none hV;obtain⟨x0,k0⟩:=bQ opens_31 rfl underlying31 (hval 0 31 v0 rfl rfl) h0;obtain⟨x1,k1⟩:=Po opens_3 rfl rfl (Ze underlying3 (hval 1 3 v1 rfl rfl)) h1;obtain⟨x2,k2⟩:=bQ opens_36 rfl underlying36 (hval 2 36 v2 rfl rfl) h2;obtain⟨x3,k3⟩:=Po opens_59 rfl rfl (Qu underlying59 (hval 3 59 v3 rfl rfl)) h3;obtain⟨x4,k4⟩:=Po opens_60 rfl rfl (Qu underlying60 (hval 4 60 v4 rfl rfl)) h4;obtain⟨x5,k5⟩:=Po opens_43 rfl rfl (Qu underlying43 (hval 5 43 v5 rfl rfl)) h5;obtain⟨x6,k6⟩:=Po opens_3 rfl rfl (Ze underlying3 (hval 6 3 v6 rfl rfl)) h6;obtain⟨x7,k7⟩:=Po opens_86 rfl rfl (Qu underlying86 (hval 7 86 v7 rfl rfl)) h7;obtain⟨rfl,ki1⟩:=k1.int;obtain⟨rfl,ki6⟩:=k6.int;have hsw:=λq hq=>xI (uQ.1 hsz q hq);have hR:=reachBytes_lt;have lb0:x0.E.length≤4398046511104:=by
  obtain⟨w0,w1,w2,w3,w4,w5,w6,w7,ev,hex⟩:=B7.ex k0;subst ev;have hb:=WB underlying31 h0 (λq hq=>hsw q (Qi (j:=0) rfl rfl q hq)) (j:=3) rfl underlying23 (by kernel_rfl) rfl hex.2.2.2.1;rw[show prog.bytesOf 57=152 by kernel_rfl] at hb;omega
 have lb1:x2.N.length≤4398046511104:=by
  obtain⟨w0,w1,w2,ev,hex⟩:=DL.ex k2;subst ev;have hb:=WB underlying36 h2 (λq hq=>hsw q (Qi (j:=2) rfl rfl q hq)) (j:=2) rfl underlying33 (by kernel_rfl) rfl hex.2.2.1;rw[show prog.bytesOf 93=32 by kernel_rfl] at hb;omega
 have lb2:x3.length≤4398046511104:=by
  have hb:=bR underlying59 h3 (λq hq=>hsw q (Qi (j:=3) rfl rfl q hq)) k3.sl;rw[show prog.bytesOf 123=40 by kernel_rfl] at hb;omega
 refine(Yi (asees_ret (St.all W.heap) k0 x1 ki1 k2 k3.sl k4.sl k5.sl x6 ki6 k7.sl lb0 lb1 lb2)).mono λe W' ⟨he,hb⟩=>⟨_,he,?_⟩
 exact Zn (tb:=4) (by kernel_rfl) (by kernel_rfl) hW' (by kernel_rfl) underlying4 rfl rfl rfl rfl hb
theorem asees_holds:Rows.AlarmSeesSaid:=
 OpenClaim.holds_of_wide 7 Tryz.f7 rfl rfl rfl rfl rfl rfl rfl ⟨rfl,rfl,rfl,rfl,rfl⟩ rfl rfl rfl rfl rfl (by kernel_rfl) func7 (by kernel_rfl)
  (xI (by kernel_rfl)) (by unfold Func.isWrapper;first|(rw [uJ (by decide +kernel)];kernel_rfl)|(rw [uI (by decide +kernel)];exact⟨rfl,rfl⟩))
  (λos started H enc _=>asees_holds_lifted os started H enc)
end asees
end Go.Proofs.YtibidnaedddfdaaGreat
