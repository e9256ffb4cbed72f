/- The law RunConserves holds for every input. No conditions. -/
import Derived.Test.YtedgiljmffngoaaGreatHPureDiv
import Derived.Test.YtedgiljmffngoaaGreatHCore9
namespace Go.Proofs.YtedgiljmffngoaaGreat
set_option linter.all false
open Go.ChangeShapes Go.WideShapes Go.ChangeAt Go.RowKit
open Go.Proofs.Tryz
namespace rcons
theorem rcons_ret {S:Nat→Prop}{L:List HP}{h:AV}(hs:St S L h) {v0:Value}{x0:AF}(k0:Rd S h BV v0 x0) {v1:Value}{x1:AE}(k1:Rd S h A7 v1 x1) {v2:Value}{x2:(List Ck)}(k2:Sl S h Ge v2 x2) (x3:Int) (k3:AB x3):B3 prog 5 #[v0,v1,v2,.int .i64 x3] S h (λv S' h'=>v= .bool true∧St S' L h'):=
 L9 hs k0 k1 k2 k3 (Xx) (QD _ _ _ _)
theorem oz9:E8 prog 9 A4.str:=ZY (by kernel_rfl) underlying9
theorem oz22:E8 prog 22 (A4.sl A4.str):=G8 (by kernel_rfl) underlying22 oz9 rfl
theorem oz3:E8 prog 3 AC:=ZZ (by kernel_rfl) underlying3
theorem oz137:E8 prog 137 B4:=by
 have hc:prog.cellsOf 137=2:=by kernel_rfl
 refine⟨hc,λ{H enc w base spare held fuel cs x} h=>?_⟩;obtain⟨hl,hf⟩:=Dv underlying137 h;rw[hc] at hl
 match cs,hl with
 |[c0,c1],_=>
  obtain⟨y0,k0⟩:=hf 0 _ AC rfl oz3;obtain⟨e0,r0⟩:=k0;obtain rfl:c0=_:=(Aa2 (show[c0]=_ from e0)).1;obtain⟨y1,k1⟩:=hf 1 _ AC rfl oz3;obtain⟨e1,r1⟩:=k1;obtain rfl:c1=_:=(Aa2 (show[c1]=_ from e1)).1;exact⟨⟨y0,y1⟩,⟨rfl,⟨r0,r1⟩⟩⟩
theorem oz98:E8 prog 98 (A4.sl B4):=G8 (by kernel_rfl) underlying98 oz137 rfl
theorem oz29:E8 prog 29 (A4.sl AC):=G8 (by kernel_rfl) underlying29 oz3 rfl
theorem oz290:E8 prog 290 Mv:=by
 have hc:prog.cellsOf 290=2:=by kernel_rfl
 refine⟨hc,λ{H enc w base spare held fuel cs x} h=>?_⟩;obtain⟨hl,hf⟩:=Dv underlying290 h;rw[hc] at hl
 match cs,hl with
 |[c0,c1],_=>
  obtain⟨y0,k0⟩:=hf 0 _ AC rfl oz3;obtain⟨e0,r0⟩:=k0;obtain rfl:c0=_:=(Aa2 (show[c0]=_ from e0)).1;obtain⟨y1,k1⟩:=hf 1 _ AC rfl oz3;obtain⟨e1,r1⟩:=k1;obtain rfl:c1=_:=(Aa2 (show[c1]=_ from e1)).1;exact⟨⟨y0,y1⟩,⟨rfl,⟨r0,r1⟩⟩⟩
theorem oz99:E8 prog 99 (A4.sl Mv):=G8 (by kernel_rfl) underlying99 oz290 rfl
theorem oz101:E8 prog 101 CC:=by
 have hc:prog.cellsOf 101=12:=by kernel_rfl
 refine⟨hc,λ{H enc w base spare held fuel cs x} h=>?_⟩;obtain⟨hl,hf⟩:=Dv underlying101 h;rw[hc] at hl
 match cs,hl with
 |[c0,c1,c2,c3,c4,c5,c6,c7,c8,c9,c10,c11],_=>
  obtain⟨y0,k0⟩:=hf 0 _ A4.str rfl oz9;obtain⟨e0,r0⟩:=k0;obtain rfl:c0=_:=(Aa2 (show[c0]=_ from e0)).1;obtain⟨y1,k1⟩:=hf 1 _ AC rfl oz3;obtain⟨e1,r1⟩:=k1;obtain rfl:c1=_:=(Aa2 (show[c1]=_ from e1)).1;obtain⟨y2,k2⟩:=hf 2 _ AC rfl oz3;obtain⟨e2,r2⟩:=k2;obtain rfl:c2=_:=(Aa2 (show[c2]=_ from e2)).1;obtain⟨y3,k3⟩:=hf 3 _ AC rfl oz3;obtain⟨e3,r3⟩:=k3;obtain rfl:c3=_:=(Aa2 (show[c3]=_ from e3)).1;obtain⟨y4,k4⟩:=hf 4 _ (A4.sl B4) rfl oz98;obtain⟨w4,e4,r4⟩:=k4;obtain rfl:c4=_:=(Aa2 (show[c4]=_ from e4)).1;obtain⟨y5,k5⟩:=hf 5 _ (A4.sl AC) rfl oz29;obtain⟨w5,e5,r5⟩:=k5;obtain rfl:c5=_:=(Aa2 (show[c5]=_ from e5)).1;obtain⟨y6,k6⟩:=hf 6 _ AC rfl oz3;obtain⟨e6,r6⟩:=k6;obtain rfl:c6=_:=(Aa2 (show[c6]=_ from e6)).1;obtain⟨y7,k7⟩:=hf 7 _ AC rfl oz3;obtain⟨e7,r7⟩:=k7;obtain rfl:c7=_:=(Aa2 (show[c7]=_ from e7)).1;obtain⟨y8,k8⟩:=hf 8 _ AC rfl oz3;obtain⟨e8,r8⟩:=k8;obtain rfl:c8=_:=(Aa2 (show[c8]=_ from e8)).1;obtain⟨y9,k9⟩:=hf 9 _ AC rfl oz3;obtain⟨e9,r9⟩:=k9;obtain rfl:c9=_:=(Aa2 (show[c9]=_ from e9)).1;obtain⟨y10,k10⟩:=hf 10 _ AC rfl oz3;obtain⟨e10,r10⟩:=k10;obtain rfl:c10=_:=(Aa2 (show[c10]=_ from e10)).1;obtain⟨y11,k11⟩:=hf 11 _ (A4.sl Mv) rfl oz99;obtain⟨w11,e11,r11⟩:=k11;obtain rfl:c11=_:=(Aa2 (show[c11]=_ from e11)).1;exact⟨⟨y0,y1,y2,y3,y4,y5,y6,y7,y8,y9,y10,y11⟩,⟨c4,c5,c11,rfl,r0,r1,r2,r3,r4,r5,r6,r7,r8,r9,r10,r11⟩⟩
theorem oz23:E8 prog 23 (A4.sl CC):=G8 (by kernel_rfl) underlying23 oz101 rfl
theorem oz115:E8 prog 115 MB:=by
 have hc:prog.cellsOf 115=2:=by kernel_rfl
 refine⟨hc,λ{H enc w base spare held fuel cs x} h=>?_⟩;obtain⟨hl,hf⟩:=Dv underlying115 h;rw[hc] at hl
 match cs,hl with
 |[c0,c1],_=>
  obtain⟨y0,k0⟩:=hf 0 _ (A4.sl B4) rfl oz98;obtain⟨w0,e0,r0⟩:=k0;obtain rfl:c0=_:=(Aa2 (show[c0]=_ from e0)).1;obtain⟨y1,k1⟩:=hf 1 _ (A4.sl B4) rfl oz98;obtain⟨w1,e1,r1⟩:=k1;obtain rfl:c1=_:=(Aa2 (show[c1]=_ from e1)).1;exact⟨⟨y0,y1⟩,⟨c0,c1,rfl,r0,r1⟩⟩
theorem oz117:E8 prog 117 B0:=by
 have hc:prog.cellsOf 117=18:=by kernel_rfl
 refine⟨hc,λ{H enc w base spare held fuel cs x} h=>?_⟩;obtain⟨hl,hf⟩:=Dv underlying117 h;rw[hc] at hl
 match cs,hl with
 |[c0,c1,c2,c3,c4,c5,c6,c7,c8,c9,c10,c11,c12,c13,c14,c15,c16,c17],_=>
  obtain⟨y0,k0⟩:=hf 0 _ A4.str rfl oz9;obtain⟨e0,r0⟩:=k0;obtain rfl:c0=_:=(Aa2 (show[c0]=_ from e0)).1;obtain⟨y1,k1⟩:=hf 1 _ AC rfl oz3;obtain⟨e1,r1⟩:=k1;obtain rfl:c1=_:=(Aa2 (show[c1]=_ from e1)).1;obtain⟨y2,k2⟩:=hf 2 _ AC rfl oz3;obtain⟨e2,r2⟩:=k2;obtain rfl:c2=_:=(Aa2 (show[c2]=_ from e2)).1;obtain⟨y3,k3⟩:=hf 3 _ AC rfl oz3;obtain⟨e3,r3⟩:=k3;obtain rfl:c3=_:=(Aa2 (show[c3]=_ from e3)).1;obtain⟨y4,k4⟩:=hf 4 _ (A4.sl B4) rfl oz98;obtain⟨w4,e4,r4⟩:=k4;obtain rfl:c4=_:=(Aa2 (show[c4]=_ from e4)).1;obtain⟨y5,k5⟩:=hf 5 _ MB rfl oz115;obtain⟨w5_0,w5_1,e5,r5_0,r5_1⟩:=k5;obtain⟨rfl,rfl⟩:c5=_∧c6=_:=by simpa using (show[c5,c6]=_ from e5)
  obtain⟨y6,k6⟩:=hf 6 _ AC rfl oz3;obtain⟨e6,r6⟩:=k6;obtain rfl:c7=_:=(Aa2 (show[c7]=_ from e6)).1;obtain⟨y7,k7⟩:=hf 7 _ AC rfl oz3;obtain⟨e7,r7⟩:=k7;obtain rfl:c8=_:=(Aa2 (show[c8]=_ from e7)).1;obtain⟨y8,k8⟩:=hf 8 _ AC rfl oz3;obtain⟨e8,r8⟩:=k8;obtain rfl:c9=_:=(Aa2 (show[c9]=_ from e8)).1;obtain⟨y9,k9⟩:=hf 9 _ AC rfl oz3;obtain⟨e9,r9⟩:=k9;obtain rfl:c10=_:=(Aa2 (show[c10]=_ from e9)).1;obtain⟨y10,k10⟩:=hf 10 _ AC rfl oz3;obtain⟨e10,r10⟩:=k10;obtain rfl:c11=_:=(Aa2 (show[c11]=_ from e10)).1;obtain⟨y11,k11⟩:=hf 11 _ AC rfl oz3;obtain⟨e11,r11⟩:=k11;obtain rfl:c12=_:=(Aa2 (show[c12]=_ from e11)).1;obtain⟨y12,k12⟩:=hf 12 _ AC rfl oz3;obtain⟨e12,r12⟩:=k12;obtain rfl:c13=_:=(Aa2 (show[c13]=_ from e12)).1;obtain⟨y13,k13⟩:=hf 13 _ AC rfl oz3;obtain⟨e13,r13⟩:=k13;obtain rfl:c14=_:=(Aa2 (show[c14]=_ from e13)).1;obtain⟨y14,k14⟩:=hf 14 _ AC rfl oz3;obtain⟨e14,r14⟩:=k14;obtain rfl:c15=_:=(Aa2 (show[c15]=_ from e14)).1;obtain⟨y15,k15⟩:=hf 15 _ AC rfl oz3;obtain⟨e15,r15⟩:=k15;obtain rfl:c16=_:=(Aa2 (show[c16]=_ from e15)).1;obtain⟨y16,k16⟩:=hf 16 _ AC rfl oz3;obtain⟨e16,r16⟩:=k16;obtain rfl:c17=_:=(Aa2 (show[c17]=_ from e16)).1;exact⟨⟨y0,y1,y2,y3,y4,y5,y6,y7,y8,y9,y10,y11,y12,y13,y14,y15,y16⟩,⟨c4,c5,c6,rfl,r0,r1,r2,r3,r4,r5_0,r5_1,r6,r7,r8,r9,r10,r11,r12,r13,r14,r15,r16⟩⟩
theorem oz24:E8 prog 24 (A4.sl B0):=G8 (by kernel_rfl) underlying24 oz117 rfl
theorem oz139:E8 prog 139 Hb:=by
 have hc:prog.cellsOf 139=7:=by kernel_rfl
 refine⟨hc,λ{H enc w base spare held fuel cs x} h=>?_⟩;obtain⟨hl,hf⟩:=Dv underlying139 h;rw[hc] at hl
 match cs,hl with
 |[c0,c1,c2,c3,c4,c5,c6],_=>
  obtain⟨y0,k0⟩:=hf 0 _ A4.str rfl oz9;obtain⟨e0,r0⟩:=k0;obtain rfl:c0=_:=(Aa2 (show[c0]=_ from e0)).1;obtain⟨y1,k1⟩:=hf 1 _ AC rfl oz3;obtain⟨e1,r1⟩:=k1;obtain rfl:c1=_:=(Aa2 (show[c1]=_ from e1)).1;obtain⟨y2,k2⟩:=hf 2 _ AC rfl oz3;obtain⟨e2,r2⟩:=k2;obtain rfl:c2=_:=(Aa2 (show[c2]=_ from e2)).1;obtain⟨y3,k3⟩:=hf 3 _ AC rfl oz3;obtain⟨e3,r3⟩:=k3;obtain rfl:c3=_:=(Aa2 (show[c3]=_ from e3)).1;obtain⟨y4,k4⟩:=hf 4 _ AC rfl oz3;obtain⟨e4,r4⟩:=k4;obtain rfl:c4=_:=(Aa2 (show[c4]=_ from e4)).1;obtain⟨y5,k5⟩:=hf 5 _ AC rfl oz3;obtain⟨e5,r5⟩:=k5;obtain rfl:c5=_:=(Aa2 (show[c5]=_ from e5)).1;obtain⟨y6,k6⟩:=hf 6 _ AC rfl oz3;obtain⟨e6,r6⟩:=k6;obtain rfl:c6=_:=(Aa2 (show[c6]=_ from e6)).1;exact⟨⟨y0,y1,y2,y3,y4,y5,y6⟩,⟨rfl,⟨r0,r1,r2,r3,r4,r5,r6⟩⟩⟩
theorem oz25:E8 prog 25 (A4.sl Hb):=G8 (by kernel_rfl) underlying25 oz139 rfl
theorem oz217:E8 prog 217 Er:=by
 have hc:prog.cellsOf 217=5:=by kernel_rfl
 refine⟨hc,λ{H enc w base spare held fuel cs x} h=>?_⟩;obtain⟨hl,hf⟩:=Dv underlying217 h;rw[hc] at hl
 match cs,hl with
 |[c0,c1,c2,c3,c4],_=>
  obtain⟨y0,k0⟩:=hf 0 _ A4.str rfl oz9;obtain⟨e0,r0⟩:=k0;obtain rfl:c0=_:=(Aa2 (show[c0]=_ from e0)).1;obtain⟨y1,k1⟩:=hf 1 _ AC rfl oz3;obtain⟨e1,r1⟩:=k1;obtain rfl:c1=_:=(Aa2 (show[c1]=_ from e1)).1;obtain⟨y2,k2⟩:=hf 2 _ AC rfl oz3;obtain⟨e2,r2⟩:=k2;obtain rfl:c2=_:=(Aa2 (show[c2]=_ from e2)).1;obtain⟨y3,k3⟩:=hf 3 _ AC rfl oz3;obtain⟨e3,r3⟩:=k3;obtain rfl:c3=_:=(Aa2 (show[c3]=_ from e3)).1;obtain⟨y4,k4⟩:=hf 4 _ AC rfl oz3;obtain⟨e4,r4⟩:=k4;obtain rfl:c4=_:=(Aa2 (show[c4]=_ from e4)).1;exact⟨⟨y0,y1,y2,y3,y4⟩,⟨rfl,⟨r0,r1,r2,r3,r4⟩⟩⟩
theorem oz26:E8 prog 26 (A4.sl Er):=G8 (by kernel_rfl) underlying26 oz217 rfl
theorem oz219:E8 prog 219 G4:=by
 have hc:prog.cellsOf 219=7:=by kernel_rfl
 refine⟨hc,λ{H enc w base spare held fuel cs x} h=>?_⟩;obtain⟨hl,hf⟩:=Dv underlying219 h;rw[hc] at hl
 match cs,hl with
 |[c0,c1,c2,c3,c4,c5,c6],_=>
  obtain⟨y0,k0⟩:=hf 0 _ A4.str rfl oz9;obtain⟨e0,r0⟩:=k0;obtain rfl:c0=_:=(Aa2 (show[c0]=_ from e0)).1;obtain⟨y1,k1⟩:=hf 1 _ AC rfl oz3;obtain⟨e1,r1⟩:=k1;obtain rfl:c1=_:=(Aa2 (show[c1]=_ from e1)).1;obtain⟨y2,k2⟩:=hf 2 _ AC rfl oz3;obtain⟨e2,r2⟩:=k2;obtain rfl:c2=_:=(Aa2 (show[c2]=_ from e2)).1;obtain⟨y3,k3⟩:=hf 3 _ AC rfl oz3;obtain⟨e3,r3⟩:=k3;obtain rfl:c3=_:=(Aa2 (show[c3]=_ from e3)).1;obtain⟨y4,k4⟩:=hf 4 _ AC rfl oz3;obtain⟨e4,r4⟩:=k4;obtain rfl:c4=_:=(Aa2 (show[c4]=_ from e4)).1;obtain⟨y5,k5⟩:=hf 5 _ AC rfl oz3;obtain⟨e5,r5⟩:=k5;obtain rfl:c5=_:=(Aa2 (show[c5]=_ from e5)).1;obtain⟨y6,k6⟩:=hf 6 _ AC rfl oz3;obtain⟨e6,r6⟩:=k6;obtain rfl:c6=_:=(Aa2 (show[c6]=_ from e6)).1;exact⟨⟨y0,y1,y2,y3,y4,y5,y6⟩,⟨rfl,⟨r0,r1,r2,r3,r4,r5,r6⟩⟩⟩
theorem oz27:E8 prog 27 (A4.sl G4):=G8 (by kernel_rfl) underlying27 oz219 rfl
theorem oz215:E8 prog 215 DI:=by
 have hc:prog.cellsOf 215=2:=by kernel_rfl
 refine⟨hc,λ{H enc w base spare held fuel cs x} h=>?_⟩;obtain⟨hl,hf⟩:=Dv underlying215 h;rw[hc] at hl
 match cs,hl with
 |[c0,c1],_=>
  obtain⟨y0,k0⟩:=hf 0 _ A4.str rfl oz9;obtain⟨e0,r0⟩:=k0;obtain rfl:c0=_:=(Aa2 (show[c0]=_ from e0)).1;obtain⟨y1,k1⟩:=hf 1 _ AC rfl oz3;obtain⟨e1,r1⟩:=k1;obtain rfl:c1=_:=(Aa2 (show[c1]=_ from e1)).1;exact⟨⟨y0,y1⟩,⟨rfl,⟨r0,r1⟩⟩⟩
theorem oz28:E8 prog 28 (A4.sl DI):=G8 (by kernel_rfl) underlying28 oz215 rfl
theorem oz31:E8 prog 31 BV:=by
 have hc:prog.cellsOf 31=11:=by kernel_rfl
 refine⟨hc,λ{H enc w base spare held fuel cs x} h=>?_⟩;obtain⟨hl,hf⟩:=Dv underlying31 h;rw[hc] at hl
 match cs,hl with
 |[c0,c1,c2,c3,c4,c5,c6,c7,c8,c9,c10],_=>
  obtain⟨y0,k0⟩:=hf 0 _ A4.str rfl oz9;obtain⟨e0,r0⟩:=k0;obtain rfl:c0=_:=(Aa2 (show[c0]=_ from e0)).1;obtain⟨y1,k1⟩:=hf 1 _ (A4.sl A4.str) rfl oz22;obtain⟨w1,e1,r1⟩:=k1;obtain rfl:c1=_:=(Aa2 (show[c1]=_ from e1)).1;obtain⟨y2,k2⟩:=hf 2 _ AC rfl oz3;obtain⟨e2,r2⟩:=k2;obtain rfl:c2=_:=(Aa2 (show[c2]=_ from e2)).1;obtain⟨y3,k3⟩:=hf 3 _ (A4.sl CC) rfl oz23;obtain⟨w3,e3,r3⟩:=k3;obtain rfl:c3=_:=(Aa2 (show[c3]=_ from e3)).1;obtain⟨y4,k4⟩:=hf 4 _ (A4.sl B0) rfl oz24;obtain⟨w4,e4,r4⟩:=k4;obtain rfl:c4=_:=(Aa2 (show[c4]=_ from e4)).1;obtain⟨y5,k5⟩:=hf 5 _ (A4.sl Hb) rfl oz25;obtain⟨w5,e5,r5⟩:=k5;obtain rfl:c5=_:=(Aa2 (show[c5]=_ from e5)).1;obtain⟨y6,k6⟩:=hf 6 _ (A4.sl Er) rfl oz26;obtain⟨w6,e6,r6⟩:=k6;obtain rfl:c6=_:=(Aa2 (show[c6]=_ from e6)).1;obtain⟨y7,k7⟩:=hf 7 _ (A4.sl G4) rfl oz27;obtain⟨w7,e7,r7⟩:=k7;obtain rfl:c7=_:=(Aa2 (show[c7]=_ from e7)).1;obtain⟨y8,k8⟩:=hf 8 _ (A4.sl DI) rfl oz28;obtain⟨w8,e8,r8⟩:=k8;obtain rfl:c8=_:=(Aa2 (show[c8]=_ from e8)).1;obtain⟨y9,k9⟩:=hf 9 _ (A4.sl AC) rfl oz29;obtain⟨w9,e9,r9⟩:=k9;obtain rfl:c9=_:=(Aa2 (show[c9]=_ from e9)).1;obtain⟨y10,k10⟩:=hf 10 _ AC rfl oz3;obtain⟨e10,r10⟩:=k10;obtain rfl:c10=_:=(Aa2 (show[c10]=_ from e10)).1;exact⟨⟨y0,y1,y2,y3,y4,y5,y6,y7,y8,y9,y10⟩,⟨c1,c3,c4,c5,c6,c7,c8,c9,rfl,r0,r1,r2,r3,r4,r5,r6,r7,r8,r9,r10⟩⟩
theorem oz32:E8 prog 32 (A4.sl (A4.sl AC)):=G8 (by kernel_rfl) underlying32 oz29 rfl
theorem oz121:E8 prog 121 AS:=by
 have hc:prog.cellsOf 121=3:=by kernel_rfl
 refine⟨hc,λ{H enc w base spare held fuel cs x} h=>?_⟩;obtain⟨hl,hf⟩:=Dv underlying121 h;rw[hc] at hl
 match cs,hl with
 |[c0,c1,c2],_=>
  obtain⟨y0,k0⟩:=hf 0 _ AC rfl oz3;obtain⟨e0,r0⟩:=k0;obtain rfl:c0=_:=(Aa2 (show[c0]=_ from e0)).1;obtain⟨y1,k1⟩:=hf 1 _ AC rfl oz3;obtain⟨e1,r1⟩:=k1;obtain rfl:c1=_:=(Aa2 (show[c1]=_ from e1)).1;obtain⟨y2,k2⟩:=hf 2 _ (A4.sl AC) rfl oz29;obtain⟨w2,e2,r2⟩:=k2;obtain rfl:c2=_:=(Aa2 (show[c2]=_ from e2)).1;exact⟨⟨y0,y1,y2⟩,⟨c2,rfl,r0,r1,r2⟩⟩
theorem oz33:E8 prog 33 (A4.sl AS):=G8 (by kernel_rfl) underlying33 oz121 rfl
theorem oz4:E8 prog 4 A4.bool:=XJ (by kernel_rfl) underlying4
theorem oz106:E8 prog 106 BL:=by
 have hc:prog.cellsOf 106=4:=by kernel_rfl
 refine⟨hc,λ{H enc w base spare held fuel cs x} h=>?_⟩;obtain⟨hl,hf⟩:=Dv underlying106 h;rw[hc] at hl
 match cs,hl with
 |[c0,c1,c2,c3],_=>
  obtain⟨y0,k0⟩:=hf 0 _ AC rfl oz3;obtain⟨e0,r0⟩:=k0;obtain rfl:c0=_:=(Aa2 (show[c0]=_ from e0)).1;obtain⟨y1,k1⟩:=hf 1 _ AC rfl oz3;obtain⟨e1,r1⟩:=k1;obtain rfl:c1=_:=(Aa2 (show[c1]=_ from e1)).1;obtain⟨y2,k2⟩:=hf 2 _ A4.bool rfl oz4;obtain rfl:c2=_:=(Aa2 (show[c2]=_ from k2)).1;obtain⟨y3,k3⟩:=hf 3 _ A4.bool rfl oz4;obtain rfl:c3=_:=(Aa2 (show[c3]=_ from k3)).1;exact⟨⟨y0,y1,y2,y3⟩,⟨rfl,⟨r0,r1⟩⟩⟩
theorem oz34:E8 prog 34 (A4.sl BL):=G8 (by kernel_rfl) underlying34 oz106 rfl
theorem oz36:E8 prog 36 A7:=by
 have hc:prog.cellsOf 36=7:=by kernel_rfl
 refine⟨hc,λ{H enc w base spare held fuel cs x} h=>?_⟩;obtain⟨hl,hf⟩:=Dv underlying36 h;rw[hc] at hl
 match cs,hl with
 |[c0,c1,c2,c3,c4,c5,c6],_=>
  obtain⟨y0,k0⟩:=hf 0 _ AC rfl oz3;obtain⟨e0,r0⟩:=k0;obtain rfl:c0=_:=(Aa2 (show[c0]=_ from e0)).1;obtain⟨y1,k1⟩:=hf 1 _ (A4.sl (A4.sl AC)) rfl oz32;obtain⟨w1,e1,r1⟩:=k1;obtain rfl:c1=_:=(Aa2 (show[c1]=_ from e1)).1;obtain⟨y2,k2⟩:=hf 2 _ (A4.sl AC) rfl oz29;obtain⟨w2,e2,r2⟩:=k2;obtain rfl:c2=_:=(Aa2 (show[c2]=_ from e2)).1;obtain⟨y3,k3⟩:=hf 3 _ (A4.sl AS) rfl oz33;obtain⟨w3,e3,r3⟩:=k3;obtain rfl:c3=_:=(Aa2 (show[c3]=_ from e3)).1;obtain⟨y4,k4⟩:=hf 4 _ (A4.sl BL) rfl oz34;obtain⟨w4,e4,r4⟩:=k4;obtain rfl:c4=_:=(Aa2 (show[c4]=_ from e4)).1;obtain⟨y5,k5⟩:=hf 5 _ (A4.sl AC) rfl oz29;obtain⟨w5,e5,r5⟩:=k5;obtain rfl:c5=_:=(Aa2 (show[c5]=_ from e5)).1;obtain⟨y6,k6⟩:=hf 6 _ (A4.sl AC) rfl oz29;obtain⟨w6,e6,r6⟩:=k6;obtain rfl:c6=_:=(Aa2 (show[c6]=_ from e6)).1;exact⟨⟨y0,y1,y2,y3,y4,y5,y6⟩,⟨c1,c2,c3,c4,c5,c6,rfl,r0,r1,r2,r3,r4,r5,r6⟩⟩
theorem oz232:E8 prog 232 Gt:=by
 have hc:prog.cellsOf 232=2:=by kernel_rfl
 refine⟨hc,λ{H enc w base spare held fuel cs x} h=>?_⟩;obtain⟨hl,hf⟩:=Dv underlying232 h;rw[hc] at hl
 match cs,hl with
 |[c0,c1],_=>
  obtain⟨y0,k0⟩:=hf 0 _ AC rfl oz3;obtain⟨e0,r0⟩:=k0;obtain rfl:c0=_:=(Aa2 (show[c0]=_ from e0)).1;obtain⟨y1,k1⟩:=hf 1 _ AC rfl oz3;obtain⟨e1,r1⟩:=k1;obtain rfl:c1=_:=(Aa2 (show[c1]=_ from e1)).1;exact⟨⟨y0,y1⟩,⟨rfl,⟨r0,r1⟩⟩⟩
theorem oz55:E8 prog 55 (A4.sl Gt):=G8 (by kernel_rfl) underlying55 oz232 rfl
theorem oz210:E8 prog 210 J6:=by
 have hc:prog.cellsOf 210=2:=by kernel_rfl
 refine⟨hc,λ{H enc w base spare held fuel cs x} h=>?_⟩;obtain⟨hl,hf⟩:=Dv underlying210 h;rw[hc] at hl
 match cs,hl with
 |[c0,c1],_=>
  obtain⟨y0,k0⟩:=hf 0 _ AC rfl oz3;obtain⟨e0,r0⟩:=k0;obtain rfl:c0=_:=(Aa2 (show[c0]=_ from e0)).1;obtain⟨y1,k1⟩:=hf 1 _ AC rfl oz3;obtain⟨e1,r1⟩:=k1;obtain rfl:c1=_:=(Aa2 (show[c1]=_ from e1)).1;exact⟨⟨y0,y1⟩,⟨rfl,⟨r0,r1⟩⟩⟩
theorem oz56:E8 prog 56 (A4.sl J6):=G8 (by kernel_rfl) underlying56 oz210 rfl
theorem oz243:E8 prog 243 Gs:=by
 have hc:prog.cellsOf 243=4:=by kernel_rfl
 refine⟨hc,λ{H enc w base spare held fuel cs x} h=>?_⟩;obtain⟨hl,hf⟩:=Dv underlying243 h;rw[hc] at hl
 match cs,hl with
 |[c0,c1,c2,c3],_=>
  obtain⟨y0,k0⟩:=hf 0 _ AC rfl oz3;obtain⟨e0,r0⟩:=k0;obtain rfl:c0=_:=(Aa2 (show[c0]=_ from e0)).1;obtain⟨y1,k1⟩:=hf 1 _ AC rfl oz3;obtain⟨e1,r1⟩:=k1;obtain rfl:c1=_:=(Aa2 (show[c1]=_ from e1)).1;obtain⟨y2,k2⟩:=hf 2 _ AC rfl oz3;obtain⟨e2,r2⟩:=k2;obtain rfl:c2=_:=(Aa2 (show[c2]=_ from e2)).1;obtain⟨y3,k3⟩:=hf 3 _ AC rfl oz3;obtain⟨e3,r3⟩:=k3;obtain rfl:c3=_:=(Aa2 (show[c3]=_ from e3)).1;exact⟨⟨y0,y1,y2,y3⟩,⟨rfl,⟨r0,r1,r2,r3⟩⟩⟩
theorem oz57:E8 prog 57 (A4.sl Gs):=G8 (by kernel_rfl) underlying57 oz243 rfl
theorem oz251:E8 prog 251 HJ:=by
 have hc:prog.cellsOf 251=4:=by kernel_rfl
 refine⟨hc,λ{H enc w base spare held fuel cs x} h=>?_⟩;obtain⟨hl,hf⟩:=Dv underlying251 h;rw[hc] at hl
 match cs,hl with
 |[c0,c1,c2,c3],_=>
  obtain⟨y0,k0⟩:=hf 0 _ AC rfl oz3;obtain⟨e0,r0⟩:=k0;obtain rfl:c0=_:=(Aa2 (show[c0]=_ from e0)).1;obtain⟨y1,k1⟩:=hf 1 _ AC rfl oz3;obtain⟨e1,r1⟩:=k1;obtain rfl:c1=_:=(Aa2 (show[c1]=_ from e1)).1;obtain⟨y2,k2⟩:=hf 2 _ AC rfl oz3;obtain⟨e2,r2⟩:=k2;obtain rfl:c2=_:=(Aa2 (show[c2]=_ from e2)).1;obtain⟨y3,k3⟩:=hf 3 _ AC rfl oz3;obtain⟨e3,r3⟩:=k3;obtain rfl:c3=_:=(Aa2 (show[c3]=_ from e3)).1;exact⟨⟨y0,y1,y2,y3⟩,⟨rfl,⟨r0,r1,r2,r3⟩⟩⟩
theorem oz58:E8 prog 58 (A4.sl HJ):=G8 (by kernel_rfl) underlying58 oz251 rfl
theorem oz60:E8 prog 60 Ge:=by
 have hc:prog.cellsOf 60=5:=by kernel_rfl
 refine⟨hc,λ{H enc w base spare held fuel cs x} h=>?_⟩;obtain⟨hl,hf⟩:=Dv underlying60 h;rw[hc] at hl
 match cs,hl with
 |[c0,c1,c2,c3,c4],_=>
  obtain⟨y0,k0⟩:=hf 0 _ (A4.sl AC) rfl oz29;obtain⟨w0,e0,r0⟩:=k0;obtain rfl:c0=_:=(Aa2 (show[c0]=_ from e0)).1;obtain⟨y1,k1⟩:=hf 1 _ (A4.sl Gt) rfl oz55;obtain⟨w1,e1,r1⟩:=k1;obtain rfl:c1=_:=(Aa2 (show[c1]=_ from e1)).1;obtain⟨y2,k2⟩:=hf 2 _ (A4.sl J6) rfl oz56;obtain⟨w2,e2,r2⟩:=k2;obtain rfl:c2=_:=(Aa2 (show[c2]=_ from e2)).1;obtain⟨y3,k3⟩:=hf 3 _ (A4.sl Gs) rfl oz57;obtain⟨w3,e3,r3⟩:=k3;obtain rfl:c3=_:=(Aa2 (show[c3]=_ from e3)).1;obtain⟨y4,k4⟩:=hf 4 _ (A4.sl HJ) rfl oz58;obtain⟨w4,e4,r4⟩:=k4;obtain rfl:c4=_:=(Aa2 (show[c4]=_ from e4)).1;exact⟨⟨y0,y1,y2,y3,y4⟩,⟨c0,c1,c2,c3,c4,rfl,r0,r1,r2,r3,r4⟩⟩
theorem oz78:E8 prog 78 (A4.sl Ge):=G8 (by kernel_rfl) underlying78 oz60 rfl
set_option maxRecDepth 100000 in
theorem rcl (os:Os) (started:os.Started) (H:Type) (enc:TypeId×Value→H):
  ReturnsInHanded {} Tryz.checked os 5 .any (Rows.runConservesSpec.pre6 enc prog Tryz.f5 Rows.runConservesRow.domain false) (Rows.runConservesSpec.post enc prog Tryz.f5 false true false false):=by
 refine returnsInHanded_of_change (C:=Tryz.checked) (by kernel_rfl) started (by kernel_rfl) func5
  (ChangeSpec.witness6 (enc:=enc) (C:=Tryz.checked) false ⟨#[],#[.agg #[.string ByteArray.empty,.slice none 0 0,.int .i64 0,.slice none 0 0,.slice none 0 0,.slice none 0 0,.slice none 0 0,.slice none 0 0,.slice none 0 0,.slice none 0 0,.int .i64 0],.agg #[.int .i64 0,.slice none 0 0,.slice none 0 0,.slice none 0 0,.slice none 0 0,.slice none 0 0,.slice none 0 0],.slice none 0 0,.int .i64 0],[]⟩ 8 (by kernel_rfl) (by kernel_rfl) (by kernel_rfl) (by kernel_rfl)) ?_
 intro W base args ds gs before hval0 hW hcnd _;have hval:∀(j:Nat) t v,Tryz.f5.params[j]? =some t→args[j]? =some v→Value.okWide prog W .any base t v:=hval0;have hW':=hW;obtain⟨p,q,hA0,hV,rfl,hfz,hnd⟩:=hW;have hA:DataW.TrodAll enc prog W 0 (λ_=>true) true Tryz.f5.params.toList args.toList ds p:=hA0;rw[params5] at hA hval;obtain⟨v0,vs0,d0,ds0,p0,q0,ha0,rfl,rfl,h0,r0⟩:=trodAll_cons hA;obtain⟨v1,vs1,d1,ds1,p1,q1,rfl,rfl,rfl,h1,r1⟩:=trodAll_cons r0;obtain⟨v2,vs2,d2,ds2,p2,q2,rfl,rfl,rfl,h2,r2⟩:=trodAll_cons r1;obtain⟨v3,vs3,d3,ds3,p3,q3,rfl,rfl,rfl,h3,r3⟩:=trodAll_cons r2;obtain⟨rfl,rfl,rfl⟩:=trodAll_nil r3;obtain rfl:args= #[v0,v1,v2,v3]:=by cases args;simp_all
 obtain⟨rfl,rfl⟩:=trodVars_none hV;obtain⟨x0,k0⟩:=fS oz31 rfl underlying31 (hval 0 31 v0 rfl rfl) h0;obtain⟨x1,k1⟩:=fS oz36 rfl underlying36 (hval 1 36 v1 rfl rfl) h1;obtain⟨x2,k2⟩:=Ye oz78 rfl rfl (cU underlying78 (hval 2 78 v2 rfl rfl)) h2;obtain⟨x3,k3⟩:=Ye oz3 rfl rfl (pU underlying3 (hval 3 3 v3 rfl rfl)) h3;obtain⟨rfl,ki3⟩:=k3.int;refine(Ze (rcons_ret (St.all W.heap) k0 k1 k2.sl x3 ki3)).mono λe W' ⟨he,hb⟩=>⟨_,he,?_⟩
 exact dN (tb:=4) (by kernel_rfl) (by kernel_rfl) hW' (by kernel_rfl) underlying4 rfl rfl rfl rfl hb
theorem rcn:Tryz.pinned.checked.prog.funcNamed Rows.runConservesRow.func=some 5:=by kernel_rfl
set_option maxHeartbeats 20000000 in
theorem rcj:joinedFacts Tryz.pinned.checked.prog 5 Tryz.f5 Rows.runConservesSpec Rows.runConservesRow=true:=by
 unfold joinedFacts
 iterate 31 refine Bool.and_eq_true_iff.2 ⟨?_,?_⟩
 all_goals as_aux_lemma=>kernel_rfl
theorem rcons_holds:Rows.RunConservesSaid:=
 OpenClaim.holds_of_wide 5 Tryz.f5 rfl rfl rfl rfl rfl rfl rfl ⟨rfl,rfl,rfl,rfl,rfl⟩ rfl rfl rfl rfl rfl rcn func5 rcj
  (Adf (by kernel_rfl)) (by unfold Func.isWrapper;first|(rw [Aay (by decide +kernel)];kernel_rfl)|(rw [Aaw (by decide +kernel)];exact⟨rfl,rfl⟩))
  (λos started H enc _=>rcl os started H enc)
end rcons
end Go.Proofs.YtedgiljmffngoaaGreat
