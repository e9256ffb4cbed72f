/- The law HullExact holds for every input: the hull of a right state is right, has the state and is exact, and has another state exactly if the sums are the same. Conditions: none. -/
import Derived.Test.YtibidnaedddfdaaGreatAWalk13
import Derived.Test.YtibidnaedddfdaaGreatAPlain
import Derived.Test.YtibidnaedddfdaaGreatACore9
namespace Go.Proofs.YtibidnaedddfdaaGreat
open Go.ChangeShapes Go.WideShapes Go.ChangeAt Go.RowKit
set_option linter.unusedVariables false
set_option linter.unusedSimpArgs false
namespace hexact
theorem hexact_ret {S:Nat→Prop}{L:List HP}{h:Ad}(hs:St S L h) {v0:Value}{x0:AJ}(k0:Rd S h A3 v0 x0) {v1:Value}{x1:AV}(k1:Rd S h CA v1 x1) {v2:Value}{x2:AV}(k2:Rd S h CA v2 x2):BP Tryz.prog 6 #[v0,v1,v2] S h (λv S' h'=>v= .bool true∧St S' L h'):=
 I5 hs k0 k1 k2 (On _ _ _)
theorem opens_9:ED Tryz.prog 9 AW.str:=Rg (by kernel_rfl) Tryz.underlying9
theorem opens_22:ED Tryz.prog 22 (AW.sl AW.str):=Fs (by kernel_rfl) Tryz.underlying22 opens_9 rfl
theorem opens_3:ED Tryz.prog 3 AW.int:=Rh (by kernel_rfl) Tryz.underlying3
theorem opens_90:ED Tryz.prog 90 A8:=by
 have hc:Tryz.prog.cellsOf 90=2:=by kernel_rfl
 refine⟨hc,λ{H enc w base spare held fuel cs x} h=>?_⟩
 obtain⟨hl,hf⟩:=DP Tryz.underlying90 h
 rw[hc] at hl
 match cs,hl with
 |[c0,c1],_=>
  obtain⟨y0,k0⟩:=hf 0 _ AW.int rfl opens_3
  obtain⟨e0,r0⟩:=k0
  obtain rfl:c0=_:=(List.cons.inj (show[c0]=_ from e0)).1
  obtain⟨y1,k1⟩:=hf 1 _ AW.int rfl opens_3
  obtain⟨e1,r1⟩:=k1
  obtain rfl:c1=_:=(List.cons.inj (show[c1]=_ from e1)).1
  exact⟨⟨y0,y1⟩,⟨rfl,⟨r0,r1⟩⟩⟩
theorem opens_54:ED Tryz.prog 54 (AW.sl A8):=Fs (by kernel_rfl) Tryz.underlying54 opens_90 rfl
theorem opens_29:ED Tryz.prog 29 (AW.sl AW.int):=Fs (by kernel_rfl) Tryz.underlying29 opens_3 rfl
theorem opens_164:ED Tryz.prog 164 IM:=by
 have hc:Tryz.prog.cellsOf 164=2:=by kernel_rfl
 refine⟨hc,λ{H enc w base spare held fuel cs x} h=>?_⟩
 obtain⟨hl,hf⟩:=DP Tryz.underlying164 h
 rw[hc] at hl
 match cs,hl with
 |[c0,c1],_=>
  obtain⟨y0,k0⟩:=hf 0 _ AW.int rfl opens_3
  obtain⟨e0,r0⟩:=k0
  obtain rfl:c0=_:=(List.cons.inj (show[c0]=_ from e0)).1
  obtain⟨y1,k1⟩:=hf 1 _ AW.int rfl opens_3
  obtain⟨e1,r1⟩:=k1
  obtain rfl:c1=_:=(List.cons.inj (show[c1]=_ from e1)).1
  exact⟨⟨y0,y1⟩,⟨rfl,⟨r0,r1⟩⟩⟩
theorem opens_55:ED Tryz.prog 55 (AW.sl IM):=Fs (by kernel_rfl) Tryz.underlying55 opens_164 rfl
theorem opens_57:ED Tryz.prog 57 A7:=by
 have hc:Tryz.prog.cellsOf 57=12:=by kernel_rfl
 refine⟨hc,λ{H enc w base spare held fuel cs x} h=>?_⟩
 obtain⟨hl,hf⟩:=DP Tryz.underlying57 h
 rw[hc] at hl
 match cs,hl with
 |[c0,c1,c2,c3,c4,c5,c6,c7,c8,c9,c10,c11],_=>
  obtain⟨y0,k0⟩:=hf 0 _ AW.str rfl opens_9
  obtain⟨e0,r0⟩:=k0
  obtain rfl:c0=_:=(List.cons.inj (show[c0]=_ from e0)).1
  obtain⟨y1,k1⟩:=hf 1 _ AW.int rfl opens_3
  obtain⟨e1,r1⟩:=k1
  obtain rfl:c1=_:=(List.cons.inj (show[c1]=_ from e1)).1
  obtain⟨y2,k2⟩:=hf 2 _ AW.int rfl opens_3
  obtain⟨e2,r2⟩:=k2
  obtain rfl:c2=_:=(List.cons.inj (show[c2]=_ from e2)).1
  obtain⟨y3,k3⟩:=hf 3 _ AW.int rfl opens_3
  obtain⟨e3,r3⟩:=k3
  obtain rfl:c3=_:=(List.cons.inj (show[c3]=_ from e3)).1
  obtain⟨y4,k4⟩:=hf 4 _ (AW.sl A8) rfl opens_54
  obtain⟨w4,e4,r4⟩:=k4
  obtain rfl:c4=_:=(List.cons.inj (show[c4]=_ from e4)).1
  obtain⟨y5,k5⟩:=hf 5 _ (AW.sl AW.int) rfl opens_29
  obtain⟨w5,e5,r5⟩:=k5
  obtain rfl:c5=_:=(List.cons.inj (show[c5]=_ from e5)).1
  obtain⟨y6,k6⟩:=hf 6 _ AW.int rfl opens_3
  obtain⟨e6,r6⟩:=k6
  obtain rfl:c6=_:=(List.cons.inj (show[c6]=_ from e6)).1
  obtain⟨y7,k7⟩:=hf 7 _ AW.int rfl opens_3
  obtain⟨e7,r7⟩:=k7
  obtain rfl:c7=_:=(List.cons.inj (show[c7]=_ from e7)).1
  obtain⟨y8,k8⟩:=hf 8 _ AW.int rfl opens_3
  obtain⟨e8,r8⟩:=k8
  obtain rfl:c8=_:=(List.cons.inj (show[c8]=_ from e8)).1
  obtain⟨y9,k9⟩:=hf 9 _ AW.int rfl opens_3
  obtain⟨e9,r9⟩:=k9
  obtain rfl:c9=_:=(List.cons.inj (show[c9]=_ from e9)).1
  obtain⟨y10,k10⟩:=hf 10 _ AW.int rfl opens_3
  obtain⟨e10,r10⟩:=k10
  obtain rfl:c10=_:=(List.cons.inj (show[c10]=_ from e10)).1
  obtain⟨y11,k11⟩:=hf 11 _ (AW.sl IM) rfl opens_55
  obtain⟨w11,e11,r11⟩:=k11
  obtain rfl:c11=_:=(List.cons.inj (show[c11]=_ from e11)).1
  exact⟨⟨y0,y1,y2,y3,y4,y5,y6,y7,y8,y9,y10,y11⟩,⟨c4,c5,c11,rfl,r0,r1,r2,r3,r4,r5,r6,r7,r8,r9,r10,r11⟩⟩
theorem opens_23:ED Tryz.prog 23 (AW.sl A7):=Fs (by kernel_rfl) Tryz.underlying23 opens_57 rfl
theorem opens_100:ED Tryz.prog 100 Jz:=by
 have hc:Tryz.prog.cellsOf 100=2:=by kernel_rfl
 refine⟨hc,λ{H enc w base spare held fuel cs x} h=>?_⟩
 obtain⟨hl,hf⟩:=DP Tryz.underlying100 h
 rw[hc] at hl
 match cs,hl with
 |[c0,c1],_=>
  obtain⟨y0,k0⟩:=hf 0 _ (AW.sl A8) rfl opens_54
  obtain⟨w0,e0,r0⟩:=k0
  obtain rfl:c0=_:=(List.cons.inj (show[c0]=_ from e0)).1
  obtain⟨y1,k1⟩:=hf 1 _ (AW.sl A8) rfl opens_54
  obtain⟨w1,e1,r1⟩:=k1
  obtain rfl:c1=_:=(List.cons.inj (show[c1]=_ from e1)).1
  exact⟨⟨y0,y1⟩,⟨c0,c1,rfl,r0,r1⟩⟩
theorem opens_102:ED Tryz.prog 102 A0:=by
 have hc:Tryz.prog.cellsOf 102=18:=by kernel_rfl
 refine⟨hc,λ{H enc w base spare held fuel cs x} h=>?_⟩
 obtain⟨hl,hf⟩:=DP Tryz.underlying102 h
 rw[hc] at hl
 match cs,hl with
 |[c0,c1,c2,c3,c4,c5,c6,c7,c8,c9,c10,c11,c12,c13,c14,c15,c16,c17],_=>
  obtain⟨y0,k0⟩:=hf 0 _ AW.str rfl opens_9
  obtain⟨e0,r0⟩:=k0
  obtain rfl:c0=_:=(List.cons.inj (show[c0]=_ from e0)).1
  obtain⟨y1,k1⟩:=hf 1 _ AW.int rfl opens_3
  obtain⟨e1,r1⟩:=k1
  obtain rfl:c1=_:=(List.cons.inj (show[c1]=_ from e1)).1
  obtain⟨y2,k2⟩:=hf 2 _ AW.int rfl opens_3
  obtain⟨e2,r2⟩:=k2
  obtain rfl:c2=_:=(List.cons.inj (show[c2]=_ from e2)).1
  obtain⟨y3,k3⟩:=hf 3 _ AW.int rfl opens_3
  obtain⟨e3,r3⟩:=k3
  obtain rfl:c3=_:=(List.cons.inj (show[c3]=_ from e3)).1
  obtain⟨y4,k4⟩:=hf 4 _ (AW.sl A8) rfl opens_54
  obtain⟨w4,e4,r4⟩:=k4
  obtain rfl:c4=_:=(List.cons.inj (show[c4]=_ from e4)).1
  obtain⟨y5,k5⟩:=hf 5 _ Jz rfl opens_100
  obtain⟨w5_0,w5_1,e5,r5_0,r5_1⟩:=k5
  obtain⟨rfl,rfl⟩:c5=_∧c6=_:=by simpa using (show[c5,c6]=_ from e5)
  obtain⟨y6,k6⟩:=hf 6 _ AW.int rfl opens_3
  obtain⟨e6,r6⟩:=k6
  obtain rfl:c7=_:=(List.cons.inj (show[c7]=_ from e6)).1
  obtain⟨y7,k7⟩:=hf 7 _ AW.int rfl opens_3
  obtain⟨e7,r7⟩:=k7
  obtain rfl:c8=_:=(List.cons.inj (show[c8]=_ from e7)).1
  obtain⟨y8,k8⟩:=hf 8 _ AW.int rfl opens_3
  obtain⟨e8,r8⟩:=k8
  obtain rfl:c9=_:=(List.cons.inj (show[c9]=_ from e8)).1
  obtain⟨y9,k9⟩:=hf 9 _ AW.int rfl opens_3
  obtain⟨e9,r9⟩:=k9
  obtain rfl:c10=_:=(List.cons.inj (show[c10]=_ from e9)).1
  obtain⟨y10,k10⟩:=hf 10 _ AW.int rfl opens_3
  obtain⟨e10,r10⟩:=k10
  obtain rfl:c11=_:=(List.cons.inj (show[c11]=_ from e10)).1
  obtain⟨y11,k11⟩:=hf 11 _ AW.int rfl opens_3
  obtain⟨e11,r11⟩:=k11
  obtain rfl:c12=_:=(List.cons.inj (show[c12]=_ from e11)).1
  obtain⟨y12,k12⟩:=hf 12 _ AW.int rfl opens_3
  obtain⟨e12,r12⟩:=k12
  obtain rfl:c13=_:=(List.cons.inj (show[c13]=_ from e12)).1
  obtain⟨y13,k13⟩:=hf 13 _ AW.int rfl opens_3
  obtain⟨e13,r13⟩:=k13
  obtain rfl:c14=_:=(List.cons.inj (show[c14]=_ from e13)).1
  obtain⟨y14,k14⟩:=hf 14 _ AW.int rfl opens_3
  obtain⟨e14,r14⟩:=k14
  obtain rfl:c15=_:=(List.cons.inj (show[c15]=_ from e14)).1
  obtain⟨y15,k15⟩:=hf 15 _ AW.int rfl opens_3
  obtain⟨e15,r15⟩:=k15
  obtain rfl:c16=_:=(List.cons.inj (show[c16]=_ from e15)).1
  obtain⟨y16,k16⟩:=hf 16 _ AW.int rfl opens_3
  obtain⟨e16,r16⟩:=k16
  obtain rfl:c17=_:=(List.cons.inj (show[c17]=_ from e16)).1
  exact⟨⟨y0,y1,y2,y3,y4,y5,y6,y7,y8,y9,y10,y11,y12,y13,y14,y15,y16⟩,⟨c4,c5,c6,rfl,r0,r1,r2,r3,r4,r5_0,r5_1,r6,r7,r8,r9,r10,r11,r12,r13,r14,r15,r16⟩⟩
theorem opens_24:ED Tryz.prog 24 (AW.sl A0):=Fs (by kernel_rfl) Tryz.underlying24 opens_102 rfl
theorem opens_114:ED Tryz.prog 114 FI:=by
 have hc:Tryz.prog.cellsOf 114=7:=by kernel_rfl
 refine⟨hc,λ{H enc w base spare held fuel cs x} h=>?_⟩
 obtain⟨hl,hf⟩:=DP Tryz.underlying114 h
 rw[hc] at hl
 match cs,hl with
 |[c0,c1,c2,c3,c4,c5,c6],_=>
  obtain⟨y0,k0⟩:=hf 0 _ AW.str rfl opens_9
  obtain⟨e0,r0⟩:=k0
  obtain rfl:c0=_:=(List.cons.inj (show[c0]=_ from e0)).1
  obtain⟨y1,k1⟩:=hf 1 _ AW.int rfl opens_3
  obtain⟨e1,r1⟩:=k1
  obtain rfl:c1=_:=(List.cons.inj (show[c1]=_ from e1)).1
  obtain⟨y2,k2⟩:=hf 2 _ AW.int rfl opens_3
  obtain⟨e2,r2⟩:=k2
  obtain rfl:c2=_:=(List.cons.inj (show[c2]=_ from e2)).1
  obtain⟨y3,k3⟩:=hf 3 _ AW.int rfl opens_3
  obtain⟨e3,r3⟩:=k3
  obtain rfl:c3=_:=(List.cons.inj (show[c3]=_ from e3)).1
  obtain⟨y4,k4⟩:=hf 4 _ AW.int rfl opens_3
  obtain⟨e4,r4⟩:=k4
  obtain rfl:c4=_:=(List.cons.inj (show[c4]=_ from e4)).1
  obtain⟨y5,k5⟩:=hf 5 _ AW.int rfl opens_3
  obtain⟨e5,r5⟩:=k5
  obtain rfl:c5=_:=(List.cons.inj (show[c5]=_ from e5)).1
  obtain⟨y6,k6⟩:=hf 6 _ AW.int rfl opens_3
  obtain⟨e6,r6⟩:=k6
  obtain rfl:c6=_:=(List.cons.inj (show[c6]=_ from e6)).1
  exact⟨⟨y0,y1,y2,y3,y4,y5,y6⟩,⟨rfl,⟨r0,r1,r2,r3,r4,r5,r6⟩⟩⟩
theorem opens_25:ED Tryz.prog 25 (AW.sl FI):=Fs (by kernel_rfl) Tryz.underlying25 opens_114 rfl
theorem opens_147:ED Tryz.prog 147 C9:=by
 have hc:Tryz.prog.cellsOf 147=5:=by kernel_rfl
 refine⟨hc,λ{H enc w base spare held fuel cs x} h=>?_⟩
 obtain⟨hl,hf⟩:=DP Tryz.underlying147 h
 rw[hc] at hl
 match cs,hl with
 |[c0,c1,c2,c3,c4],_=>
  obtain⟨y0,k0⟩:=hf 0 _ AW.str rfl opens_9
  obtain⟨e0,r0⟩:=k0
  obtain rfl:c0=_:=(List.cons.inj (show[c0]=_ from e0)).1
  obtain⟨y1,k1⟩:=hf 1 _ AW.int rfl opens_3
  obtain⟨e1,r1⟩:=k1
  obtain rfl:c1=_:=(List.cons.inj (show[c1]=_ from e1)).1
  obtain⟨y2,k2⟩:=hf 2 _ AW.int rfl opens_3
  obtain⟨e2,r2⟩:=k2
  obtain rfl:c2=_:=(List.cons.inj (show[c2]=_ from e2)).1
  obtain⟨y3,k3⟩:=hf 3 _ AW.int rfl opens_3
  obtain⟨e3,r3⟩:=k3
  obtain rfl:c3=_:=(List.cons.inj (show[c3]=_ from e3)).1
  obtain⟨y4,k4⟩:=hf 4 _ AW.int rfl opens_3
  obtain⟨e4,r4⟩:=k4
  obtain rfl:c4=_:=(List.cons.inj (show[c4]=_ from e4)).1
  exact⟨⟨y0,y1,y2,y3,y4⟩,⟨rfl,⟨r0,r1,r2,r3,r4⟩⟩⟩
theorem opens_26:ED Tryz.prog 26 (AW.sl C9):=Fs (by kernel_rfl) Tryz.underlying26 opens_147 rfl
theorem opens_160:ED Tryz.prog 160 FD:=by
 have hc:Tryz.prog.cellsOf 160=7:=by kernel_rfl
 refine⟨hc,λ{H enc w base spare held fuel cs x} h=>?_⟩
 obtain⟨hl,hf⟩:=DP Tryz.underlying160 h
 rw[hc] at hl
 match cs,hl with
 |[c0,c1,c2,c3,c4,c5,c6],_=>
  obtain⟨y0,k0⟩:=hf 0 _ AW.str rfl opens_9
  obtain⟨e0,r0⟩:=k0
  obtain rfl:c0=_:=(List.cons.inj (show[c0]=_ from e0)).1
  obtain⟨y1,k1⟩:=hf 1 _ AW.int rfl opens_3
  obtain⟨e1,r1⟩:=k1
  obtain rfl:c1=_:=(List.cons.inj (show[c1]=_ from e1)).1
  obtain⟨y2,k2⟩:=hf 2 _ AW.int rfl opens_3
  obtain⟨e2,r2⟩:=k2
  obtain rfl:c2=_:=(List.cons.inj (show[c2]=_ from e2)).1
  obtain⟨y3,k3⟩:=hf 3 _ AW.int rfl opens_3
  obtain⟨e3,r3⟩:=k3
  obtain rfl:c3=_:=(List.cons.inj (show[c3]=_ from e3)).1
  obtain⟨y4,k4⟩:=hf 4 _ AW.int rfl opens_3
  obtain⟨e4,r4⟩:=k4
  obtain rfl:c4=_:=(List.cons.inj (show[c4]=_ from e4)).1
  obtain⟨y5,k5⟩:=hf 5 _ AW.int rfl opens_3
  obtain⟨e5,r5⟩:=k5
  obtain rfl:c5=_:=(List.cons.inj (show[c5]=_ from e5)).1
  obtain⟨y6,k6⟩:=hf 6 _ AW.int rfl opens_3
  obtain⟨e6,r6⟩:=k6
  obtain rfl:c6=_:=(List.cons.inj (show[c6]=_ from e6)).1
  exact⟨⟨y0,y1,y2,y3,y4,y5,y6⟩,⟨rfl,⟨r0,r1,r2,r3,r4,r5,r6⟩⟩⟩
theorem opens_27:ED Tryz.prog 27 (AW.sl FD):=Fs (by kernel_rfl) Tryz.underlying27 opens_160 rfl
theorem opens_158:ED Tryz.prog 158 B9:=by
 have hc:Tryz.prog.cellsOf 158=2:=by kernel_rfl
 refine⟨hc,λ{H enc w base spare held fuel cs x} h=>?_⟩
 obtain⟨hl,hf⟩:=DP Tryz.underlying158 h
 rw[hc] at hl
 match cs,hl with
 |[c0,c1],_=>
  obtain⟨y0,k0⟩:=hf 0 _ AW.str rfl opens_9
  obtain⟨e0,r0⟩:=k0
  obtain rfl:c0=_:=(List.cons.inj (show[c0]=_ from e0)).1
  obtain⟨y1,k1⟩:=hf 1 _ AW.int rfl opens_3
  obtain⟨e1,r1⟩:=k1
  obtain rfl:c1=_:=(List.cons.inj (show[c1]=_ from e1)).1
  exact⟨⟨y0,y1⟩,⟨rfl,⟨r0,r1⟩⟩⟩
theorem opens_28:ED Tryz.prog 28 (AW.sl B9):=Fs (by kernel_rfl) Tryz.underlying28 opens_158 rfl
theorem opens_31:ED Tryz.prog 31 A3:=by
 have hc:Tryz.prog.cellsOf 31=11:=by kernel_rfl
 refine⟨hc,λ{H enc w base spare held fuel cs x} h=>?_⟩
 obtain⟨hl,hf⟩:=DP Tryz.underlying31 h
 rw[hc] at hl
 match cs,hl with
 |[c0,c1,c2,c3,c4,c5,c6,c7,c8,c9,c10],_=>
  obtain⟨y0,k0⟩:=hf 0 _ AW.str rfl opens_9
  obtain⟨e0,r0⟩:=k0
  obtain rfl:c0=_:=(List.cons.inj (show[c0]=_ from e0)).1
  obtain⟨y1,k1⟩:=hf 1 _ (AW.sl AW.str) rfl opens_22
  obtain⟨w1,e1,r1⟩:=k1
  obtain rfl:c1=_:=(List.cons.inj (show[c1]=_ from e1)).1
  obtain⟨y2,k2⟩:=hf 2 _ AW.int rfl opens_3
  obtain⟨e2,r2⟩:=k2
  obtain rfl:c2=_:=(List.cons.inj (show[c2]=_ from e2)).1
  obtain⟨y3,k3⟩:=hf 3 _ (AW.sl A7) rfl opens_23
  obtain⟨w3,e3,r3⟩:=k3
  obtain rfl:c3=_:=(List.cons.inj (show[c3]=_ from e3)).1
  obtain⟨y4,k4⟩:=hf 4 _ (AW.sl A0) rfl opens_24
  obtain⟨w4,e4,r4⟩:=k4
  obtain rfl:c4=_:=(List.cons.inj (show[c4]=_ from e4)).1
  obtain⟨y5,k5⟩:=hf 5 _ (AW.sl FI) rfl opens_25
  obtain⟨w5,e5,r5⟩:=k5
  obtain rfl:c5=_:=(List.cons.inj (show[c5]=_ from e5)).1
  obtain⟨y6,k6⟩:=hf 6 _ (AW.sl C9) rfl opens_26
  obtain⟨w6,e6,r6⟩:=k6
  obtain rfl:c6=_:=(List.cons.inj (show[c6]=_ from e6)).1
  obtain⟨y7,k7⟩:=hf 7 _ (AW.sl FD) rfl opens_27
  obtain⟨w7,e7,r7⟩:=k7
  obtain rfl:c7=_:=(List.cons.inj (show[c7]=_ from e7)).1
  obtain⟨y8,k8⟩:=hf 8 _ (AW.sl B9) rfl opens_28
  obtain⟨w8,e8,r8⟩:=k8
  obtain rfl:c8=_:=(List.cons.inj (show[c8]=_ from e8)).1
  obtain⟨y9,k9⟩:=hf 9 _ (AW.sl AW.int) rfl opens_29
  obtain⟨w9,e9,r9⟩:=k9
  obtain rfl:c9=_:=(List.cons.inj (show[c9]=_ from e9)).1
  obtain⟨y10,k10⟩:=hf 10 _ AW.int rfl opens_3
  obtain⟨e10,r10⟩:=k10
  obtain rfl:c10=_:=(List.cons.inj (show[c10]=_ from e10)).1
  exact⟨⟨y0,y1,y2,y3,y4,y5,y6,y7,y8,y9,y10⟩,⟨c1,c3,c4,c5,c6,c7,c8,c9,rfl,r0,r1,r2,r3,r4,r5,r6,r7,r8,r9,r10⟩⟩
theorem opens_67:ED Tryz.prog 67 (AW.sl (AW.sl AW.int)):=Fs (by kernel_rfl) Tryz.underlying67 opens_29 rfl
theorem opens_83:ED Tryz.prog 83 GD:=by
 have hc:Tryz.prog.cellsOf 83=3:=by kernel_rfl
 refine⟨hc,λ{H enc w base spare held fuel cs x} h=>?_⟩
 obtain⟨hl,hf⟩:=DP Tryz.underlying83 h
 rw[hc] at hl
 match cs,hl with
 |[c0,c1,c2],_=>
  obtain⟨y0,k0⟩:=hf 0 _ AW.int rfl opens_3
  obtain⟨e0,r0⟩:=k0
  obtain rfl:c0=_:=(List.cons.inj (show[c0]=_ from e0)).1
  obtain⟨y1,k1⟩:=hf 1 _ AW.int rfl opens_3
  obtain⟨e1,r1⟩:=k1
  obtain rfl:c1=_:=(List.cons.inj (show[c1]=_ from e1)).1
  obtain⟨y2,k2⟩:=hf 2 _ (AW.sl AW.int) rfl opens_29
  obtain⟨w2,e2,r2⟩:=k2
  obtain rfl:c2=_:=(List.cons.inj (show[c2]=_ from e2)).1
  exact⟨⟨y0,y1,y2⟩,⟨c2,rfl,r0,r1,r2⟩⟩
theorem opens_68:ED Tryz.prog 68 (AW.sl GD):=Fs (by kernel_rfl) Tryz.underlying68 opens_83 rfl
theorem opens_4:ED Tryz.prog 4 AW.bool:=QN (by kernel_rfl) Tryz.underlying4
theorem opens_81:ED Tryz.prog 81 DE:=by
 have hc:Tryz.prog.cellsOf 81=4:=by kernel_rfl
 refine⟨hc,λ{H enc w base spare held fuel cs x} h=>?_⟩
 obtain⟨hl,hf⟩:=DP Tryz.underlying81 h
 rw[hc] at hl
 match cs,hl with
 |[c0,c1,c2,c3],_=>
  obtain⟨y0,k0⟩:=hf 0 _ AW.int rfl opens_3
  obtain⟨e0,r0⟩:=k0
  obtain rfl:c0=_:=(List.cons.inj (show[c0]=_ from e0)).1
  obtain⟨y1,k1⟩:=hf 1 _ AW.int rfl opens_3
  obtain⟨e1,r1⟩:=k1
  obtain rfl:c1=_:=(List.cons.inj (show[c1]=_ from e1)).1
  obtain⟨y2,k2⟩:=hf 2 _ AW.bool rfl opens_4
  obtain rfl:c2=_:=(List.cons.inj (show[c2]=_ from k2)).1
  obtain⟨y3,k3⟩:=hf 3 _ AW.bool rfl opens_4
  obtain rfl:c3=_:=(List.cons.inj (show[c3]=_ from k3)).1
  exact⟨⟨y0,y1,y2,y3⟩,⟨rfl,⟨r0,r1⟩⟩⟩
theorem opens_69:ED Tryz.prog 69 (AW.sl DE):=Fs (by kernel_rfl) Tryz.underlying69 opens_81 rfl
theorem opens_71:ED Tryz.prog 71 CA:=by
 have hc:Tryz.prog.cellsOf 71=7:=by kernel_rfl
 refine⟨hc,λ{H enc w base spare held fuel cs x} h=>?_⟩
 obtain⟨hl,hf⟩:=DP Tryz.underlying71 h
 rw[hc] at hl
 match cs,hl with
 |[c0,c1,c2,c3,c4,c5,c6],_=>
  obtain⟨y0,k0⟩:=hf 0 _ AW.int rfl opens_3
  obtain⟨e0,r0⟩:=k0
  obtain rfl:c0=_:=(List.cons.inj (show[c0]=_ from e0)).1
  obtain⟨y1,k1⟩:=hf 1 _ (AW.sl (AW.sl AW.int)) rfl opens_67
  obtain⟨w1,e1,r1⟩:=k1
  obtain rfl:c1=_:=(List.cons.inj (show[c1]=_ from e1)).1
  obtain⟨y2,k2⟩:=hf 2 _ (AW.sl AW.int) rfl opens_29
  obtain⟨w2,e2,r2⟩:=k2
  obtain rfl:c2=_:=(List.cons.inj (show[c2]=_ from e2)).1
  obtain⟨y3,k3⟩:=hf 3 _ (AW.sl GD) rfl opens_68
  obtain⟨w3,e3,r3⟩:=k3
  obtain rfl:c3=_:=(List.cons.inj (show[c3]=_ from e3)).1
  obtain⟨y4,k4⟩:=hf 4 _ (AW.sl DE) rfl opens_69
  obtain⟨w4,e4,r4⟩:=k4
  obtain rfl:c4=_:=(List.cons.inj (show[c4]=_ from e4)).1
  obtain⟨y5,k5⟩:=hf 5 _ (AW.sl AW.int) rfl opens_29
  obtain⟨w5,e5,r5⟩:=k5
  obtain rfl:c5=_:=(List.cons.inj (show[c5]=_ from e5)).1
  obtain⟨y6,k6⟩:=hf 6 _ (AW.sl AW.int) rfl opens_29
  obtain⟨w6,e6,r6⟩:=k6
  obtain rfl:c6=_:=(List.cons.inj (show[c6]=_ from e6)).1
  exact⟨⟨y0,y1,y2,y3,y4,y5,y6⟩,⟨c1,c2,c3,c4,c5,c6,rfl,r0,r1,r2,r3,r4,r5,r6⟩⟩
set_option maxRecDepth 100000 in
theorem hexact_holds_lifted (os:Os) (started:os.Started) (H:Type) (enc:TypeId×Value→H):
  ReturnsInHanded {} Tryz.checked os 6 .any (Rows.hullExactSpec.pre6 enc Tryz.prog Tryz.f6 Rows.hullExactRow.domain false) (Rows.hullExactSpec.post enc Tryz.prog Tryz.f6 false true false false):=by
 refine returnsInHanded_of_change (C:=Tryz.checked) (by kernel_rfl) started (by kernel_rfl) Tryz.func6
  (ChangeSpec.witness6 (enc:=enc) (C:=Tryz.checked) false ⟨#[],#[.agg #[.string ByteArray.empty,.slice none 0 0,.int .i64 0,.slice none 0 0,.slice none 0 0,.slice none 0 0,.slice none 0 0,.slice none 0 0,.slice none 0 0,.slice none 0 0,.int .i64 0],.agg #[.int .i64 0,.slice none 0 0,.slice none 0 0,.slice none 0 0,.slice none 0 0,.slice none 0 0,.slice none 0 0],.agg #[.int .i64 0,.slice none 0 0,.slice none 0 0,.slice none 0 0,.slice none 0 0,.slice none 0 0,.slice none 0 0]],[]⟩ 8 (by kernel_rfl) (by kernel_rfl) (by kernel_rfl) (by kernel_rfl)) ?_
 intro W base args ds gs before hval0 hW hcnd _
 have hval:∀(j:Nat) t v,Tryz.f6.params[j]? =some t→args[j]? =some v→Value.okWide Tryz.prog W .any base t v:=hval0
 have hW':=hW
 obtain⟨p,q,hA0,hV,rfl,hfz,hnd⟩:=hW
 have hA:DataW.TrodAll enc Tryz.prog W 0 (λ_=>true) true Tryz.f6.params.toList args.toList ds p:=hA0
 rw[Tryz.params6] at hA hval
 obtain⟨v0,vs0,d0,ds0,p0,q0,ha0,rfl,rfl,h0,r0⟩:=trodAll_cons hA
 obtain⟨v1,vs1,d1,ds1,p1,q1,rfl,rfl,rfl,h1,r1⟩:=trodAll_cons r0
 obtain⟨v2,vs2,d2,ds2,p2,q2,rfl,rfl,rfl,h2,r2⟩:=trodAll_cons r1
 obtain⟨rfl,rfl,rfl⟩:=trodAll_nil r2
 obtain rfl:args= #[v0,v1,v2]:=by cases args;simp_all
 obtain⟨rfl,rfl⟩:=trodVars_none hV
 obtain⟨x0,k0⟩:=QX opens_31 rfl Tryz.underlying31 (hval 0 31 v0 rfl rfl) h0
 obtain⟨x1,k1⟩:=QX opens_71 rfl Tryz.underlying71 (hval 1 71 v1 rfl rfl) h1
 obtain⟨x2,k2⟩:=QX opens_71 rfl Tryz.underlying71 (hval 2 71 v2 rfl rfl) h2
 refine(Rl (hexact_ret (St.all W.heap) k0 k1 k2)).mono λe W' ⟨he,hb⟩=>⟨_,he,?_⟩
 exact Sw (tb:=4) (by kernel_rfl) (by kernel_rfl) hW' (by kernel_rfl) Tryz.underlying4 rfl rfl rfl rfl hb
theorem hexact_holds:Rows.HullExactSaid:=
 OpenClaim.holds_of_wide 6 Tryz.f6 rfl rfl rfl rfl rfl rfl rfl ⟨rfl,rfl,rfl,rfl,rfl⟩ rfl rfl rfl rfl rfl (by kernel_rfl) Tryz.func6 (by kernel_rfl)
  (of_decide_eq_true (by kernel_rfl)) (by unfold Func.isWrapper;first|(rw [if_pos (by decide +kernel)];kernel_rfl)|(rw [if_neg (by decide +kernel)];exact⟨rfl,rfl⟩))
  (λos started H enc _=>hexact_holds_lifted os started H enc)
end hexact
end Go.Proofs.YtibidnaedddfdaaGreat
