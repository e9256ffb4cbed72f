/- The law RunPasses holds for every input. No conditions. -/
import Derived.Test.YtedgiljmffngoaaGreatPLawJ
import Derived.Test.YtedgiljmffngoaaGreatPPureDiv
import Derived.Test.YtedgiljmffngoaaGreatPCore9
namespace Go.Proofs.YtedgiljmffngoaaGreat
set_option linter.all false
open Go.ChangeShapes Go.WideShapes Go.ChangeAt Go.RowKit
open Go.Proofs.Tryz
namespace rpass
theorem rpass_ret {S:Nat→Prop}{L:List HP}{h:AS}(hs:St S L h) {v0:Value}{x0:AE}(k0:Rd S h By v0 x0) {v1:Value}{x1:AF}(k1:Rd S h BA v1 x1) {v2:Value}{x2:(List Cs)}(k2:Sl S h G0 v2 x2):B6 prog 8 #[v0,v1,v2] S h (λv S' h'=>v= .bool true∧St S' L h'):=
 M1 hs k0 k1 k2 (Xn) (SJ _ _ _)
theorem opens_9:Ex prog 9 A6.str:=ZQ (by kernel_rfl) underlying9
theorem opens_22:Ex prog 22 (A6.sl A6.str):=G1 (by kernel_rfl) underlying22 opens_9 rfl
theorem opens_3:Ex prog 3 AB:=ZR (by kernel_rfl) underlying3
theorem opens_137:Ex prog 137 CA:=by
 have hc:prog.cellsOf 137=2:=by kernel_rfl
 refine⟨hc,λ{H enc w base spare held fuel cs x} h=>?_⟩;obtain⟨hl,hf⟩:=Dk underlying137 h;rw[hc] at hl
 match cs,hl with
 |[c0,c1],_=>
  obtain⟨y0,k0⟩:=hf 0 _ AB rfl opens_3;obtain⟨e0,r0⟩:=k0;obtain rfl:c0=_:=(Aac (show[c0]=_ from e0)).1;obtain⟨y1,k1⟩:=hf 1 _ AB rfl opens_3;obtain⟨e1,r1⟩:=k1;obtain rfl:c1=_:=(Aac (show[c1]=_ from e1)).1;exact⟨⟨y0,y1⟩,⟨rfl,⟨r0,r1⟩⟩⟩
theorem opens_98:Ex prog 98 (A6.sl CA):=G1 (by kernel_rfl) underlying98 opens_137 rfl
theorem opens_29:Ex prog 29 (A6.sl AB):=G1 (by kernel_rfl) underlying29 opens_3 rfl
theorem opens_290:Ex prog 290 Mp:=by
 have hc:prog.cellsOf 290=2:=by kernel_rfl
 refine⟨hc,λ{H enc w base spare held fuel cs x} h=>?_⟩;obtain⟨hl,hf⟩:=Dk underlying290 h;rw[hc] at hl
 match cs,hl with
 |[c0,c1],_=>
  obtain⟨y0,k0⟩:=hf 0 _ AB rfl opens_3;obtain⟨e0,r0⟩:=k0;obtain rfl:c0=_:=(Aac (show[c0]=_ from e0)).1;obtain⟨y1,k1⟩:=hf 1 _ AB rfl opens_3;obtain⟨e1,r1⟩:=k1;obtain rfl:c1=_:=(Aac (show[c1]=_ from e1)).1;exact⟨⟨y0,y1⟩,⟨rfl,⟨r0,r1⟩⟩⟩
theorem opens_99:Ex prog 99 (A6.sl Mp):=G1 (by kernel_rfl) underlying99 opens_290 rfl
theorem opens_101:Ex prog 101 CJ:=by
 have hc:prog.cellsOf 101=12:=by kernel_rfl
 refine⟨hc,λ{H enc w base spare held fuel cs x} h=>?_⟩;obtain⟨hl,hf⟩:=Dk underlying101 h;rw[hc] at hl
 match cs,hl with
 |[c0,c1,c2,c3,c4,c5,c6,c7,c8,c9,c10,c11],_=>
  obtain⟨y0,k0⟩:=hf 0 _ A6.str rfl opens_9;obtain⟨e0,r0⟩:=k0;obtain rfl:c0=_:=(Aac (show[c0]=_ from e0)).1;obtain⟨y1,k1⟩:=hf 1 _ AB rfl opens_3;obtain⟨e1,r1⟩:=k1;obtain rfl:c1=_:=(Aac (show[c1]=_ from e1)).1;obtain⟨y2,k2⟩:=hf 2 _ AB rfl opens_3;obtain⟨e2,r2⟩:=k2;obtain rfl:c2=_:=(Aac (show[c2]=_ from e2)).1;obtain⟨y3,k3⟩:=hf 3 _ AB rfl opens_3;obtain⟨e3,r3⟩:=k3;obtain rfl:c3=_:=(Aac (show[c3]=_ from e3)).1;obtain⟨y4,k4⟩:=hf 4 _ (A6.sl CA) rfl opens_98;obtain⟨w4,e4,r4⟩:=k4;obtain rfl:c4=_:=(Aac (show[c4]=_ from e4)).1;obtain⟨y5,k5⟩:=hf 5 _ (A6.sl AB) rfl opens_29;obtain⟨w5,e5,r5⟩:=k5;obtain rfl:c5=_:=(Aac (show[c5]=_ from e5)).1;obtain⟨y6,k6⟩:=hf 6 _ AB rfl opens_3;obtain⟨e6,r6⟩:=k6;obtain rfl:c6=_:=(Aac (show[c6]=_ from e6)).1;obtain⟨y7,k7⟩:=hf 7 _ AB rfl opens_3;obtain⟨e7,r7⟩:=k7;obtain rfl:c7=_:=(Aac (show[c7]=_ from e7)).1;obtain⟨y8,k8⟩:=hf 8 _ AB rfl opens_3;obtain⟨e8,r8⟩:=k8;obtain rfl:c8=_:=(Aac (show[c8]=_ from e8)).1;obtain⟨y9,k9⟩:=hf 9 _ AB rfl opens_3;obtain⟨e9,r9⟩:=k9;obtain rfl:c9=_:=(Aac (show[c9]=_ from e9)).1;obtain⟨y10,k10⟩:=hf 10 _ AB rfl opens_3;obtain⟨e10,r10⟩:=k10;obtain rfl:c10=_:=(Aac (show[c10]=_ from e10)).1;obtain⟨y11,k11⟩:=hf 11 _ (A6.sl Mp) rfl opens_99;obtain⟨w11,e11,r11⟩:=k11;obtain rfl:c11=_:=(Aac (show[c11]=_ from e11)).1;exact⟨⟨y0,y1,y2,y3,y4,y5,y6,y7,y8,y9,y10,y11⟩,⟨c4,c5,c11,rfl,r0,r1,r2,r3,r4,r5,r6,r7,r8,r9,r10,r11⟩⟩
theorem opens_23:Ex prog 23 (A6.sl CJ):=G1 (by kernel_rfl) underlying23 opens_101 rfl
theorem opens_115:Ex prog 115 L5:=by
 have hc:prog.cellsOf 115=2:=by kernel_rfl
 refine⟨hc,λ{H enc w base spare held fuel cs x} h=>?_⟩;obtain⟨hl,hf⟩:=Dk underlying115 h;rw[hc] at hl
 match cs,hl with
 |[c0,c1],_=>
  obtain⟨y0,k0⟩:=hf 0 _ (A6.sl CA) rfl opens_98;obtain⟨w0,e0,r0⟩:=k0;obtain rfl:c0=_:=(Aac (show[c0]=_ from e0)).1;obtain⟨y1,k1⟩:=hf 1 _ (A6.sl CA) rfl opens_98;obtain⟨w1,e1,r1⟩:=k1;obtain rfl:c1=_:=(Aac (show[c1]=_ from e1)).1;exact⟨⟨y0,y1⟩,⟨c0,c1,rfl,r0,r1⟩⟩
theorem opens_117:Ex prog 117 B7:=by
 have hc:prog.cellsOf 117=18:=by kernel_rfl
 refine⟨hc,λ{H enc w base spare held fuel cs x} h=>?_⟩;obtain⟨hl,hf⟩:=Dk underlying117 h;rw[hc] at hl
 match cs,hl with
 |[c0,c1,c2,c3,c4,c5,c6,c7,c8,c9,c10,c11,c12,c13,c14,c15,c16,c17],_=>
  obtain⟨y0,k0⟩:=hf 0 _ A6.str rfl opens_9;obtain⟨e0,r0⟩:=k0;obtain rfl:c0=_:=(Aac (show[c0]=_ from e0)).1;obtain⟨y1,k1⟩:=hf 1 _ AB rfl opens_3;obtain⟨e1,r1⟩:=k1;obtain rfl:c1=_:=(Aac (show[c1]=_ from e1)).1;obtain⟨y2,k2⟩:=hf 2 _ AB rfl opens_3;obtain⟨e2,r2⟩:=k2;obtain rfl:c2=_:=(Aac (show[c2]=_ from e2)).1;obtain⟨y3,k3⟩:=hf 3 _ AB rfl opens_3;obtain⟨e3,r3⟩:=k3;obtain rfl:c3=_:=(Aac (show[c3]=_ from e3)).1;obtain⟨y4,k4⟩:=hf 4 _ (A6.sl CA) rfl opens_98;obtain⟨w4,e4,r4⟩:=k4;obtain rfl:c4=_:=(Aac (show[c4]=_ from e4)).1;obtain⟨y5,k5⟩:=hf 5 _ L5 rfl opens_115;obtain⟨w5_0,w5_1,e5,r5_0,r5_1⟩:=k5;obtain⟨rfl,rfl⟩:c5=_∧c6=_:=by simpa using (show[c5,c6]=_ from e5)
  obtain⟨y6,k6⟩:=hf 6 _ AB rfl opens_3;obtain⟨e6,r6⟩:=k6;obtain rfl:c7=_:=(Aac (show[c7]=_ from e6)).1;obtain⟨y7,k7⟩:=hf 7 _ AB rfl opens_3;obtain⟨e7,r7⟩:=k7;obtain rfl:c8=_:=(Aac (show[c8]=_ from e7)).1;obtain⟨y8,k8⟩:=hf 8 _ AB rfl opens_3;obtain⟨e8,r8⟩:=k8;obtain rfl:c9=_:=(Aac (show[c9]=_ from e8)).1;obtain⟨y9,k9⟩:=hf 9 _ AB rfl opens_3;obtain⟨e9,r9⟩:=k9;obtain rfl:c10=_:=(Aac (show[c10]=_ from e9)).1;obtain⟨y10,k10⟩:=hf 10 _ AB rfl opens_3;obtain⟨e10,r10⟩:=k10;obtain rfl:c11=_:=(Aac (show[c11]=_ from e10)).1;obtain⟨y11,k11⟩:=hf 11 _ AB rfl opens_3;obtain⟨e11,r11⟩:=k11;obtain rfl:c12=_:=(Aac (show[c12]=_ from e11)).1;obtain⟨y12,k12⟩:=hf 12 _ AB rfl opens_3;obtain⟨e12,r12⟩:=k12;obtain rfl:c13=_:=(Aac (show[c13]=_ from e12)).1;obtain⟨y13,k13⟩:=hf 13 _ AB rfl opens_3;obtain⟨e13,r13⟩:=k13;obtain rfl:c14=_:=(Aac (show[c14]=_ from e13)).1;obtain⟨y14,k14⟩:=hf 14 _ AB rfl opens_3;obtain⟨e14,r14⟩:=k14;obtain rfl:c15=_:=(Aac (show[c15]=_ from e14)).1;obtain⟨y15,k15⟩:=hf 15 _ AB rfl opens_3;obtain⟨e15,r15⟩:=k15;obtain rfl:c16=_:=(Aac (show[c16]=_ from e15)).1;obtain⟨y16,k16⟩:=hf 16 _ AB rfl opens_3;obtain⟨e16,r16⟩:=k16;obtain rfl:c17=_:=(Aac (show[c17]=_ from e16)).1;exact⟨⟨y0,y1,y2,y3,y4,y5,y6,y7,y8,y9,y10,y11,y12,y13,y14,y15,y16⟩,⟨c4,c5,c6,rfl,r0,r1,r2,r3,r4,r5_0,r5_1,r6,r7,r8,r9,r10,r11,r12,r13,r14,r15,r16⟩⟩
theorem opens_24:Ex prog 24 (A6.sl B7):=G1 (by kernel_rfl) underlying24 opens_117 rfl
theorem opens_139:Ex prog 139 HO:=by
 have hc:prog.cellsOf 139=7:=by kernel_rfl
 refine⟨hc,λ{H enc w base spare held fuel cs x} h=>?_⟩;obtain⟨hl,hf⟩:=Dk underlying139 h;rw[hc] at hl
 match cs,hl with
 |[c0,c1,c2,c3,c4,c5,c6],_=>
  obtain⟨y0,k0⟩:=hf 0 _ A6.str rfl opens_9;obtain⟨e0,r0⟩:=k0;obtain rfl:c0=_:=(Aac (show[c0]=_ from e0)).1;obtain⟨y1,k1⟩:=hf 1 _ AB rfl opens_3;obtain⟨e1,r1⟩:=k1;obtain rfl:c1=_:=(Aac (show[c1]=_ from e1)).1;obtain⟨y2,k2⟩:=hf 2 _ AB rfl opens_3;obtain⟨e2,r2⟩:=k2;obtain rfl:c2=_:=(Aac (show[c2]=_ from e2)).1;obtain⟨y3,k3⟩:=hf 3 _ AB rfl opens_3;obtain⟨e3,r3⟩:=k3;obtain rfl:c3=_:=(Aac (show[c3]=_ from e3)).1;obtain⟨y4,k4⟩:=hf 4 _ AB rfl opens_3;obtain⟨e4,r4⟩:=k4;obtain rfl:c4=_:=(Aac (show[c4]=_ from e4)).1;obtain⟨y5,k5⟩:=hf 5 _ AB rfl opens_3;obtain⟨e5,r5⟩:=k5;obtain rfl:c5=_:=(Aac (show[c5]=_ from e5)).1;obtain⟨y6,k6⟩:=hf 6 _ AB rfl opens_3;obtain⟨e6,r6⟩:=k6;obtain rfl:c6=_:=(Aac (show[c6]=_ from e6)).1;exact⟨⟨y0,y1,y2,y3,y4,y5,y6⟩,⟨rfl,⟨r0,r1,r2,r3,r4,r5,r6⟩⟩⟩
theorem opens_25:Ex prog 25 (A6.sl HO):=G1 (by kernel_rfl) underlying25 opens_139 rfl
theorem opens_217:Ex prog 217 Eh:=by
 have hc:prog.cellsOf 217=5:=by kernel_rfl
 refine⟨hc,λ{H enc w base spare held fuel cs x} h=>?_⟩;obtain⟨hl,hf⟩:=Dk underlying217 h;rw[hc] at hl
 match cs,hl with
 |[c0,c1,c2,c3,c4],_=>
  obtain⟨y0,k0⟩:=hf 0 _ A6.str rfl opens_9;obtain⟨e0,r0⟩:=k0;obtain rfl:c0=_:=(Aac (show[c0]=_ from e0)).1;obtain⟨y1,k1⟩:=hf 1 _ AB rfl opens_3;obtain⟨e1,r1⟩:=k1;obtain rfl:c1=_:=(Aac (show[c1]=_ from e1)).1;obtain⟨y2,k2⟩:=hf 2 _ AB rfl opens_3;obtain⟨e2,r2⟩:=k2;obtain rfl:c2=_:=(Aac (show[c2]=_ from e2)).1;obtain⟨y3,k3⟩:=hf 3 _ AB rfl opens_3;obtain⟨e3,r3⟩:=k3;obtain rfl:c3=_:=(Aac (show[c3]=_ from e3)).1;obtain⟨y4,k4⟩:=hf 4 _ AB rfl opens_3;obtain⟨e4,r4⟩:=k4;obtain rfl:c4=_:=(Aac (show[c4]=_ from e4)).1;exact⟨⟨y0,y1,y2,y3,y4⟩,⟨rfl,⟨r0,r1,r2,r3,r4⟩⟩⟩
theorem opens_26:Ex prog 26 (A6.sl Eh):=G1 (by kernel_rfl) underlying26 opens_217 rfl
theorem opens_219:Ex prog 219 Gy:=by
 have hc:prog.cellsOf 219=7:=by kernel_rfl
 refine⟨hc,λ{H enc w base spare held fuel cs x} h=>?_⟩;obtain⟨hl,hf⟩:=Dk underlying219 h;rw[hc] at hl
 match cs,hl with
 |[c0,c1,c2,c3,c4,c5,c6],_=>
  obtain⟨y0,k0⟩:=hf 0 _ A6.str rfl opens_9;obtain⟨e0,r0⟩:=k0;obtain rfl:c0=_:=(Aac (show[c0]=_ from e0)).1;obtain⟨y1,k1⟩:=hf 1 _ AB rfl opens_3;obtain⟨e1,r1⟩:=k1;obtain rfl:c1=_:=(Aac (show[c1]=_ from e1)).1;obtain⟨y2,k2⟩:=hf 2 _ AB rfl opens_3;obtain⟨e2,r2⟩:=k2;obtain rfl:c2=_:=(Aac (show[c2]=_ from e2)).1;obtain⟨y3,k3⟩:=hf 3 _ AB rfl opens_3;obtain⟨e3,r3⟩:=k3;obtain rfl:c3=_:=(Aac (show[c3]=_ from e3)).1;obtain⟨y4,k4⟩:=hf 4 _ AB rfl opens_3;obtain⟨e4,r4⟩:=k4;obtain rfl:c4=_:=(Aac (show[c4]=_ from e4)).1;obtain⟨y5,k5⟩:=hf 5 _ AB rfl opens_3;obtain⟨e5,r5⟩:=k5;obtain rfl:c5=_:=(Aac (show[c5]=_ from e5)).1;obtain⟨y6,k6⟩:=hf 6 _ AB rfl opens_3;obtain⟨e6,r6⟩:=k6;obtain rfl:c6=_:=(Aac (show[c6]=_ from e6)).1;exact⟨⟨y0,y1,y2,y3,y4,y5,y6⟩,⟨rfl,⟨r0,r1,r2,r3,r4,r5,r6⟩⟩⟩
theorem opens_27:Ex prog 27 (A6.sl Gy):=G1 (by kernel_rfl) underlying27 opens_219 rfl
theorem opens_215:Ex prog 215 DD:=by
 have hc:prog.cellsOf 215=2:=by kernel_rfl
 refine⟨hc,λ{H enc w base spare held fuel cs x} h=>?_⟩;obtain⟨hl,hf⟩:=Dk underlying215 h;rw[hc] at hl
 match cs,hl with
 |[c0,c1],_=>
  obtain⟨y0,k0⟩:=hf 0 _ A6.str rfl opens_9;obtain⟨e0,r0⟩:=k0;obtain rfl:c0=_:=(Aac (show[c0]=_ from e0)).1;obtain⟨y1,k1⟩:=hf 1 _ AB rfl opens_3;obtain⟨e1,r1⟩:=k1;obtain rfl:c1=_:=(Aac (show[c1]=_ from e1)).1;exact⟨⟨y0,y1⟩,⟨rfl,⟨r0,r1⟩⟩⟩
theorem opens_28:Ex prog 28 (A6.sl DD):=G1 (by kernel_rfl) underlying28 opens_215 rfl
theorem opens_31:Ex prog 31 By:=by
 have hc:prog.cellsOf 31=11:=by kernel_rfl
 refine⟨hc,λ{H enc w base spare held fuel cs x} h=>?_⟩;obtain⟨hl,hf⟩:=Dk underlying31 h;rw[hc] at hl
 match cs,hl with
 |[c0,c1,c2,c3,c4,c5,c6,c7,c8,c9,c10],_=>
  obtain⟨y0,k0⟩:=hf 0 _ A6.str rfl opens_9;obtain⟨e0,r0⟩:=k0;obtain rfl:c0=_:=(Aac (show[c0]=_ from e0)).1;obtain⟨y1,k1⟩:=hf 1 _ (A6.sl A6.str) rfl opens_22;obtain⟨w1,e1,r1⟩:=k1;obtain rfl:c1=_:=(Aac (show[c1]=_ from e1)).1;obtain⟨y2,k2⟩:=hf 2 _ AB rfl opens_3;obtain⟨e2,r2⟩:=k2;obtain rfl:c2=_:=(Aac (show[c2]=_ from e2)).1;obtain⟨y3,k3⟩:=hf 3 _ (A6.sl CJ) rfl opens_23;obtain⟨w3,e3,r3⟩:=k3;obtain rfl:c3=_:=(Aac (show[c3]=_ from e3)).1;obtain⟨y4,k4⟩:=hf 4 _ (A6.sl B7) rfl opens_24;obtain⟨w4,e4,r4⟩:=k4;obtain rfl:c4=_:=(Aac (show[c4]=_ from e4)).1;obtain⟨y5,k5⟩:=hf 5 _ (A6.sl HO) rfl opens_25;obtain⟨w5,e5,r5⟩:=k5;obtain rfl:c5=_:=(Aac (show[c5]=_ from e5)).1;obtain⟨y6,k6⟩:=hf 6 _ (A6.sl Eh) rfl opens_26;obtain⟨w6,e6,r6⟩:=k6;obtain rfl:c6=_:=(Aac (show[c6]=_ from e6)).1;obtain⟨y7,k7⟩:=hf 7 _ (A6.sl Gy) rfl opens_27;obtain⟨w7,e7,r7⟩:=k7;obtain rfl:c7=_:=(Aac (show[c7]=_ from e7)).1;obtain⟨y8,k8⟩:=hf 8 _ (A6.sl DD) rfl opens_28;obtain⟨w8,e8,r8⟩:=k8;obtain rfl:c8=_:=(Aac (show[c8]=_ from e8)).1;obtain⟨y9,k9⟩:=hf 9 _ (A6.sl AB) rfl opens_29;obtain⟨w9,e9,r9⟩:=k9;obtain rfl:c9=_:=(Aac (show[c9]=_ from e9)).1;obtain⟨y10,k10⟩:=hf 10 _ AB rfl opens_3;obtain⟨e10,r10⟩:=k10;obtain rfl:c10=_:=(Aac (show[c10]=_ from e10)).1;exact⟨⟨y0,y1,y2,y3,y4,y5,y6,y7,y8,y9,y10⟩,⟨c1,c3,c4,c5,c6,c7,c8,c9,rfl,r0,r1,r2,r3,r4,r5,r6,r7,r8,r9,r10⟩⟩
theorem opens_32:Ex prog 32 (A6.sl (A6.sl AB)):=G1 (by kernel_rfl) underlying32 opens_29 rfl
theorem opens_121:Ex prog 121 AZ:=by
 have hc:prog.cellsOf 121=3:=by kernel_rfl
 refine⟨hc,λ{H enc w base spare held fuel cs x} h=>?_⟩;obtain⟨hl,hf⟩:=Dk underlying121 h;rw[hc] at hl
 match cs,hl with
 |[c0,c1,c2],_=>
  obtain⟨y0,k0⟩:=hf 0 _ AB rfl opens_3;obtain⟨e0,r0⟩:=k0;obtain rfl:c0=_:=(Aac (show[c0]=_ from e0)).1;obtain⟨y1,k1⟩:=hf 1 _ AB rfl opens_3;obtain⟨e1,r1⟩:=k1;obtain rfl:c1=_:=(Aac (show[c1]=_ from e1)).1;obtain⟨y2,k2⟩:=hf 2 _ (A6.sl AB) rfl opens_29;obtain⟨w2,e2,r2⟩:=k2;obtain rfl:c2=_:=(Aac (show[c2]=_ from e2)).1;exact⟨⟨y0,y1,y2⟩,⟨c2,rfl,r0,r1,r2⟩⟩
theorem opens_33:Ex prog 33 (A6.sl AZ):=G1 (by kernel_rfl) underlying33 opens_121 rfl
theorem opens_4:Ex prog 4 A6.bool:=XA (by kernel_rfl) underlying4
theorem opens_106:Ex prog 106 BJ:=by
 have hc:prog.cellsOf 106=4:=by kernel_rfl
 refine⟨hc,λ{H enc w base spare held fuel cs x} h=>?_⟩;obtain⟨hl,hf⟩:=Dk underlying106 h;rw[hc] at hl
 match cs,hl with
 |[c0,c1,c2,c3],_=>
  obtain⟨y0,k0⟩:=hf 0 _ AB rfl opens_3;obtain⟨e0,r0⟩:=k0;obtain rfl:c0=_:=(Aac (show[c0]=_ from e0)).1;obtain⟨y1,k1⟩:=hf 1 _ AB rfl opens_3;obtain⟨e1,r1⟩:=k1;obtain rfl:c1=_:=(Aac (show[c1]=_ from e1)).1;obtain⟨y2,k2⟩:=hf 2 _ A6.bool rfl opens_4;obtain rfl:c2=_:=(Aac (show[c2]=_ from k2)).1;obtain⟨y3,k3⟩:=hf 3 _ A6.bool rfl opens_4;obtain rfl:c3=_:=(Aac (show[c3]=_ from k3)).1;exact⟨⟨y0,y1,y2,y3⟩,⟨rfl,⟨r0,r1⟩⟩⟩
theorem opens_34:Ex prog 34 (A6.sl BJ):=G1 (by kernel_rfl) underlying34 opens_106 rfl
theorem opens_36:Ex prog 36 BA:=by
 have hc:prog.cellsOf 36=7:=by kernel_rfl
 refine⟨hc,λ{H enc w base spare held fuel cs x} h=>?_⟩;obtain⟨hl,hf⟩:=Dk underlying36 h;rw[hc] at hl
 match cs,hl with
 |[c0,c1,c2,c3,c4,c5,c6],_=>
  obtain⟨y0,k0⟩:=hf 0 _ AB rfl opens_3;obtain⟨e0,r0⟩:=k0;obtain rfl:c0=_:=(Aac (show[c0]=_ from e0)).1;obtain⟨y1,k1⟩:=hf 1 _ (A6.sl (A6.sl AB)) rfl opens_32;obtain⟨w1,e1,r1⟩:=k1;obtain rfl:c1=_:=(Aac (show[c1]=_ from e1)).1;obtain⟨y2,k2⟩:=hf 2 _ (A6.sl AB) rfl opens_29;obtain⟨w2,e2,r2⟩:=k2;obtain rfl:c2=_:=(Aac (show[c2]=_ from e2)).1;obtain⟨y3,k3⟩:=hf 3 _ (A6.sl AZ) rfl opens_33;obtain⟨w3,e3,r3⟩:=k3;obtain rfl:c3=_:=(Aac (show[c3]=_ from e3)).1;obtain⟨y4,k4⟩:=hf 4 _ (A6.sl BJ) rfl opens_34;obtain⟨w4,e4,r4⟩:=k4;obtain rfl:c4=_:=(Aac (show[c4]=_ from e4)).1;obtain⟨y5,k5⟩:=hf 5 _ (A6.sl AB) rfl opens_29;obtain⟨w5,e5,r5⟩:=k5;obtain rfl:c5=_:=(Aac (show[c5]=_ from e5)).1;obtain⟨y6,k6⟩:=hf 6 _ (A6.sl AB) rfl opens_29;obtain⟨w6,e6,r6⟩:=k6;obtain rfl:c6=_:=(Aac (show[c6]=_ from e6)).1;exact⟨⟨y0,y1,y2,y3,y4,y5,y6⟩,⟨c1,c2,c3,c4,c5,c6,rfl,r0,r1,r2,r3,r4,r5,r6⟩⟩
theorem opens_232:Ex prog 232 Gm:=by
 have hc:prog.cellsOf 232=2:=by kernel_rfl
 refine⟨hc,λ{H enc w base spare held fuel cs x} h=>?_⟩;obtain⟨hl,hf⟩:=Dk underlying232 h;rw[hc] at hl
 match cs,hl with
 |[c0,c1],_=>
  obtain⟨y0,k0⟩:=hf 0 _ AB rfl opens_3;obtain⟨e0,r0⟩:=k0;obtain rfl:c0=_:=(Aac (show[c0]=_ from e0)).1;obtain⟨y1,k1⟩:=hf 1 _ AB rfl opens_3;obtain⟨e1,r1⟩:=k1;obtain rfl:c1=_:=(Aac (show[c1]=_ from e1)).1;exact⟨⟨y0,y1⟩,⟨rfl,⟨r0,r1⟩⟩⟩
theorem opens_55:Ex prog 55 (A6.sl Gm):=G1 (by kernel_rfl) underlying55 opens_232 rfl
theorem opens_210:Ex prog 210 Jy:=by
 have hc:prog.cellsOf 210=2:=by kernel_rfl
 refine⟨hc,λ{H enc w base spare held fuel cs x} h=>?_⟩;obtain⟨hl,hf⟩:=Dk underlying210 h;rw[hc] at hl
 match cs,hl with
 |[c0,c1],_=>
  obtain⟨y0,k0⟩:=hf 0 _ AB rfl opens_3;obtain⟨e0,r0⟩:=k0;obtain rfl:c0=_:=(Aac (show[c0]=_ from e0)).1;obtain⟨y1,k1⟩:=hf 1 _ AB rfl opens_3;obtain⟨e1,r1⟩:=k1;obtain rfl:c1=_:=(Aac (show[c1]=_ from e1)).1;exact⟨⟨y0,y1⟩,⟨rfl,⟨r0,r1⟩⟩⟩
theorem opens_56:Ex prog 56 (A6.sl Jy):=G1 (by kernel_rfl) underlying56 opens_210 rfl
theorem opens_243:Ex prog 243 Gl:=by
 have hc:prog.cellsOf 243=4:=by kernel_rfl
 refine⟨hc,λ{H enc w base spare held fuel cs x} h=>?_⟩;obtain⟨hl,hf⟩:=Dk underlying243 h;rw[hc] at hl
 match cs,hl with
 |[c0,c1,c2,c3],_=>
  obtain⟨y0,k0⟩:=hf 0 _ AB rfl opens_3;obtain⟨e0,r0⟩:=k0;obtain rfl:c0=_:=(Aac (show[c0]=_ from e0)).1;obtain⟨y1,k1⟩:=hf 1 _ AB rfl opens_3;obtain⟨e1,r1⟩:=k1;obtain rfl:c1=_:=(Aac (show[c1]=_ from e1)).1;obtain⟨y2,k2⟩:=hf 2 _ AB rfl opens_3;obtain⟨e2,r2⟩:=k2;obtain rfl:c2=_:=(Aac (show[c2]=_ from e2)).1;obtain⟨y3,k3⟩:=hf 3 _ AB rfl opens_3;obtain⟨e3,r3⟩:=k3;obtain rfl:c3=_:=(Aac (show[c3]=_ from e3)).1;exact⟨⟨y0,y1,y2,y3⟩,⟨rfl,⟨r0,r1,r2,r3⟩⟩⟩
theorem opens_57:Ex prog 57 (A6.sl Gl):=G1 (by kernel_rfl) underlying57 opens_243 rfl
theorem opens_251:Ex prog 251 Ha:=by
 have hc:prog.cellsOf 251=4:=by kernel_rfl
 refine⟨hc,λ{H enc w base spare held fuel cs x} h=>?_⟩;obtain⟨hl,hf⟩:=Dk underlying251 h;rw[hc] at hl
 match cs,hl with
 |[c0,c1,c2,c3],_=>
  obtain⟨y0,k0⟩:=hf 0 _ AB rfl opens_3;obtain⟨e0,r0⟩:=k0;obtain rfl:c0=_:=(Aac (show[c0]=_ from e0)).1;obtain⟨y1,k1⟩:=hf 1 _ AB rfl opens_3;obtain⟨e1,r1⟩:=k1;obtain rfl:c1=_:=(Aac (show[c1]=_ from e1)).1;obtain⟨y2,k2⟩:=hf 2 _ AB rfl opens_3;obtain⟨e2,r2⟩:=k2;obtain rfl:c2=_:=(Aac (show[c2]=_ from e2)).1;obtain⟨y3,k3⟩:=hf 3 _ AB rfl opens_3;obtain⟨e3,r3⟩:=k3;obtain rfl:c3=_:=(Aac (show[c3]=_ from e3)).1;exact⟨⟨y0,y1,y2,y3⟩,⟨rfl,⟨r0,r1,r2,r3⟩⟩⟩
theorem opens_58:Ex prog 58 (A6.sl Ha):=G1 (by kernel_rfl) underlying58 opens_251 rfl
theorem opens_60:Ex prog 60 G0:=by
 have hc:prog.cellsOf 60=5:=by kernel_rfl
 refine⟨hc,λ{H enc w base spare held fuel cs x} h=>?_⟩;obtain⟨hl,hf⟩:=Dk underlying60 h;rw[hc] at hl
 match cs,hl with
 |[c0,c1,c2,c3,c4],_=>
  obtain⟨y0,k0⟩:=hf 0 _ (A6.sl AB) rfl opens_29;obtain⟨w0,e0,r0⟩:=k0;obtain rfl:c0=_:=(Aac (show[c0]=_ from e0)).1;obtain⟨y1,k1⟩:=hf 1 _ (A6.sl Gm) rfl opens_55;obtain⟨w1,e1,r1⟩:=k1;obtain rfl:c1=_:=(Aac (show[c1]=_ from e1)).1;obtain⟨y2,k2⟩:=hf 2 _ (A6.sl Jy) rfl opens_56;obtain⟨w2,e2,r2⟩:=k2;obtain rfl:c2=_:=(Aac (show[c2]=_ from e2)).1;obtain⟨y3,k3⟩:=hf 3 _ (A6.sl Gl) rfl opens_57;obtain⟨w3,e3,r3⟩:=k3;obtain rfl:c3=_:=(Aac (show[c3]=_ from e3)).1;obtain⟨y4,k4⟩:=hf 4 _ (A6.sl Ha) rfl opens_58;obtain⟨w4,e4,r4⟩:=k4;obtain rfl:c4=_:=(Aac (show[c4]=_ from e4)).1;exact⟨⟨y0,y1,y2,y3,y4⟩,⟨c0,c1,c2,c3,c4,rfl,r0,r1,r2,r3,r4⟩⟩
theorem opens_78:Ex prog 78 (A6.sl G0):=G1 (by kernel_rfl) underlying78 opens_60 rfl
set_option maxRecDepth 100000 in
theorem rpass_holds_lifted (os:Os) (started:os.Started) (H:Type) (enc:TypeId×Value→H):
  ReturnsInHanded {} Tryz.checked os 8 .any (Rows.runPassesSpec.pre6 enc prog Tryz.f8 Rows.runPassesRow.domain false) (Rows.runPassesSpec.post enc prog Tryz.f8 false true false false):=by
 refine returnsInHanded_of_change (C:=Tryz.checked) (by kernel_rfl) started (by kernel_rfl) func8
  (ChangeSpec.witness6 (enc:=enc) (C:=Tryz.checked) false ⟨#[],#[.agg #[.string ByteArray.empty,.slice none 0 0,.int .i64 0,.slice none 0 0,.slice none 0 0,.slice none 0 0,.slice none 0 0,.slice none 0 0,.slice none 0 0,.slice none 0 0,.int .i64 0],.agg #[.int .i64 0,.slice none 0 0,.slice none 0 0,.slice none 0 0,.slice none 0 0,.slice none 0 0,.slice none 0 0],.slice none 0 0],[]⟩ 8 (by kernel_rfl) (by kernel_rfl) (by kernel_rfl) (by kernel_rfl)) ?_
 intro W base args ds gs before hval0 hW hcnd _;have hval:∀(j:Nat) t v,Tryz.f8.params[j]? =some t→args[j]? =some v→Value.okWide prog W .any base t v:=hval0;have hW':=hW;obtain⟨p,q,hA0,hV,rfl,hfz,hnd⟩:=hW;have hA:DataW.TrodAll enc prog W 0 (λ_=>true) true Tryz.f8.params.toList args.toList ds p:=hA0;rw[params8] at hA hval;obtain⟨v0,vs0,d0,ds0,p0,q0,ha0,rfl,rfl,h0,r0⟩:=trodAll_cons hA;obtain⟨v1,vs1,d1,ds1,p1,q1,rfl,rfl,rfl,h1,r1⟩:=trodAll_cons r0;obtain⟨v2,vs2,d2,ds2,p2,q2,rfl,rfl,rfl,h2,r2⟩:=trodAll_cons r1;obtain⟨rfl,rfl,rfl⟩:=trodAll_nil r2;obtain rfl:args= #[v0,v1,v2]:=by cases args;simp_all
 obtain⟨rfl,rfl⟩:=trodVars_none hV;obtain⟨x0,k0⟩:=eW opens_31 rfl underlying31 (hval 0 31 v0 rfl rfl) h0;obtain⟨x1,k1⟩:=eW opens_36 rfl underlying36 (hval 1 36 v1 rfl rfl) h1;obtain⟨x2,k2⟩:=jP opens_78 rfl rfl (cK underlying78 (hval 2 78 v2 rfl rfl)) h2;refine(ZX (rpass_ret (St.all W.heap) k0 k1 k2.sl)).mono λe W' ⟨he,hb⟩=>⟨_,he,?_⟩
 exact cW (tb:=4) (by kernel_rfl) (by kernel_rfl) hW' (by kernel_rfl) underlying4 rfl rfl rfl rfl hb
theorem rpass_holds:Rows.RunPassesSaid:=
 OpenClaim.holds_of_wide 8 Tryz.f8 rfl rfl rfl rfl rfl rfl rfl ⟨rfl,rfl,rfl,rfl,rfl⟩ rfl rfl rfl rfl rfl rpass_n func8 rpass_j
  (Ab8 (by kernel_rfl)) (by unfold Func.isWrapper;first|(rw [Aab (by decide +kernel)];kernel_rfl)|(rw [zY (by decide +kernel)];exact⟨rfl,rfl⟩))
  (λos started H enc _=>rpass_holds_lifted os started H enc)
end rpass
end Go.Proofs.YtedgiljmffngoaaGreat
