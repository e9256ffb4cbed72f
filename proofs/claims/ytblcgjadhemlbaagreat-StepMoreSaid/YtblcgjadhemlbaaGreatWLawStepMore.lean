/- The law StepMore holds for every input. No conditions. -/
import Derived.Test.YtblcgjadhemlbaaGreatWWalk19
import Derived.Test.YtblcgjadhemlbaaGreatWCore9
namespace Go.Proofs.YtblcgjadhemlbaaGreat
set_option linter.all false
open Go.ChangeShapes Go.WideShapes Go.ChangeAt Go.RowKit
open Go.Proofs.Tryz
namespace smore
theorem smore_ret {S:Nat→Prop}{L:List HP}{h:BM}(hs:St S L h) {v0:Value}{x0:AU}(k0:Rd S h C2 v0 x0) {v1:Value}{x1:A7}(k1:Rd S h DE v1 x1) {v2:Value}{x2:DO}(k2:Rd S h G0 v2 x2) (x3:Int) (k3:AH x3) (x4:Int) (k4:AH x4):DK prog 8 #[v0,v1,v2,.int .i64 x3,.int .i64 x4] S h (λv S' h'=>v= .bool true∧St S' L h'):=
 L8 hs k0 k1 k2 k3 k4 (Qc _ _ _ _ _)
theorem opens_9:FJ prog 9 BZ.str:=XI (by kernel_rfl) underlying9
theorem opens_22:FJ prog 22 (BZ.sl BZ.str):=HH (by kernel_rfl) underlying22 opens_9 rfl
theorem opens_3:FJ prog 3 AJ:=XJ (by kernel_rfl) underlying3
theorem opens_98:FJ prog 98 Cp:=by
 have hc:prog.cellsOf 98=2:=by kernel_rfl
 refine⟨hc,λ{H enc w base spare held fuel cs x} h=>?_⟩
 obtain⟨hl,hf⟩:=EH underlying98 h
 rw[hc] at hl
 match cs,hl with
 |[c0,c1],_=>
  obtain⟨y0,k0⟩:=hf 0 _ AJ rfl opens_3
  obtain⟨e0,r0⟩:=k0
  obtain rfl:c0=_:=(qU (show[c0]=_ from e0)).1
  obtain⟨y1,k1⟩:=hf 1 _ AJ rfl opens_3
  obtain⟨e1,r1⟩:=k1
  obtain rfl:c1=_:=(qU (show[c1]=_ from e1)).1
  exact⟨⟨y0,y1⟩,⟨rfl,⟨r0,r1⟩⟩⟩
theorem opens_53:FJ prog 53 (BZ.sl Cp):=HH (by kernel_rfl) underlying53 opens_98 rfl
theorem opens_29:FJ prog 29 (BZ.sl AJ):=HH (by kernel_rfl) underlying29 opens_3 rfl
theorem opens_134:FJ prog 134 K8:=by
 have hc:prog.cellsOf 134=2:=by kernel_rfl
 refine⟨hc,λ{H enc w base spare held fuel cs x} h=>?_⟩
 obtain⟨hl,hf⟩:=EH underlying134 h
 rw[hc] at hl
 match cs,hl with
 |[c0,c1],_=>
  obtain⟨y0,k0⟩:=hf 0 _ AJ rfl opens_3
  obtain⟨e0,r0⟩:=k0
  obtain rfl:c0=_:=(qU (show[c0]=_ from e0)).1
  obtain⟨y1,k1⟩:=hf 1 _ AJ rfl opens_3
  obtain⟨e1,r1⟩:=k1
  obtain rfl:c1=_:=(qU (show[c1]=_ from e1)).1
  exact⟨⟨y0,y1⟩,⟨rfl,⟨r0,r1⟩⟩⟩
theorem opens_54:FJ prog 54 (BZ.sl K8):=HH (by kernel_rfl) underlying54 opens_134 rfl
theorem opens_56:FJ prog 56 Cw:=by
 have hc:prog.cellsOf 56=12:=by kernel_rfl
 refine⟨hc,λ{H enc w base spare held fuel cs x} h=>?_⟩
 obtain⟨hl,hf⟩:=EH underlying56 h
 rw[hc] at hl
 match cs,hl with
 |[c0,c1,c2,c3,c4,c5,c6,c7,c8,c9,c10,c11],_=>
  obtain⟨y0,k0⟩:=hf 0 _ BZ.str rfl opens_9
  obtain⟨e0,r0⟩:=k0
  obtain rfl:c0=_:=(qU (show[c0]=_ from e0)).1
  obtain⟨y1,k1⟩:=hf 1 _ AJ rfl opens_3
  obtain⟨e1,r1⟩:=k1
  obtain rfl:c1=_:=(qU (show[c1]=_ from e1)).1
  obtain⟨y2,k2⟩:=hf 2 _ AJ rfl opens_3
  obtain⟨e2,r2⟩:=k2
  obtain rfl:c2=_:=(qU (show[c2]=_ from e2)).1
  obtain⟨y3,k3⟩:=hf 3 _ AJ rfl opens_3
  obtain⟨e3,r3⟩:=k3
  obtain rfl:c3=_:=(qU (show[c3]=_ from e3)).1
  obtain⟨y4,k4⟩:=hf 4 _ (BZ.sl Cp) rfl opens_53
  obtain⟨w4,e4,r4⟩:=k4
  obtain rfl:c4=_:=(qU (show[c4]=_ from e4)).1
  obtain⟨y5,k5⟩:=hf 5 _ (BZ.sl AJ) rfl opens_29
  obtain⟨w5,e5,r5⟩:=k5
  obtain rfl:c5=_:=(qU (show[c5]=_ from e5)).1
  obtain⟨y6,k6⟩:=hf 6 _ AJ rfl opens_3
  obtain⟨e6,r6⟩:=k6
  obtain rfl:c6=_:=(qU (show[c6]=_ from e6)).1
  obtain⟨y7,k7⟩:=hf 7 _ AJ rfl opens_3
  obtain⟨e7,r7⟩:=k7
  obtain rfl:c7=_:=(qU (show[c7]=_ from e7)).1
  obtain⟨y8,k8⟩:=hf 8 _ AJ rfl opens_3
  obtain⟨e8,r8⟩:=k8
  obtain rfl:c8=_:=(qU (show[c8]=_ from e8)).1
  obtain⟨y9,k9⟩:=hf 9 _ AJ rfl opens_3
  obtain⟨e9,r9⟩:=k9
  obtain rfl:c9=_:=(qU (show[c9]=_ from e9)).1
  obtain⟨y10,k10⟩:=hf 10 _ AJ rfl opens_3
  obtain⟨e10,r10⟩:=k10
  obtain rfl:c10=_:=(qU (show[c10]=_ from e10)).1
  obtain⟨y11,k11⟩:=hf 11 _ (BZ.sl K8) rfl opens_54
  obtain⟨w11,e11,r11⟩:=k11
  obtain rfl:c11=_:=(qU (show[c11]=_ from e11)).1
  exact⟨⟨y0,y1,y2,y3,y4,y5,y6,y7,y8,y9,y10,y11⟩,⟨c4,c5,c11,rfl,r0,r1,r2,r3,r4,r5,r6,r7,r8,r9,r10,r11⟩⟩
theorem opens_23:FJ prog 23 (BZ.sl Cw):=HH (by kernel_rfl) underlying23 opens_56 rfl
theorem opens_65:FJ prog 65 Mm:=by
 have hc:prog.cellsOf 65=2:=by kernel_rfl
 refine⟨hc,λ{H enc w base spare held fuel cs x} h=>?_⟩
 obtain⟨hl,hf⟩:=EH underlying65 h
 rw[hc] at hl
 match cs,hl with
 |[c0,c1],_=>
  obtain⟨y0,k0⟩:=hf 0 _ (BZ.sl Cp) rfl opens_53
  obtain⟨w0,e0,r0⟩:=k0
  obtain rfl:c0=_:=(qU (show[c0]=_ from e0)).1
  obtain⟨y1,k1⟩:=hf 1 _ (BZ.sl Cp) rfl opens_53
  obtain⟨w1,e1,r1⟩:=k1
  obtain rfl:c1=_:=(qU (show[c1]=_ from e1)).1
  exact⟨⟨y0,y1⟩,⟨c0,c1,rfl,r0,r1⟩⟩
theorem opens_67:FJ prog 67 Ct:=by
 have hc:prog.cellsOf 67=18:=by kernel_rfl
 refine⟨hc,λ{H enc w base spare held fuel cs x} h=>?_⟩
 obtain⟨hl,hf⟩:=EH underlying67 h
 rw[hc] at hl
 match cs,hl with
 |[c0,c1,c2,c3,c4,c5,c6,c7,c8,c9,c10,c11,c12,c13,c14,c15,c16,c17],_=>
  obtain⟨y0,k0⟩:=hf 0 _ BZ.str rfl opens_9
  obtain⟨e0,r0⟩:=k0
  obtain rfl:c0=_:=(qU (show[c0]=_ from e0)).1
  obtain⟨y1,k1⟩:=hf 1 _ AJ rfl opens_3
  obtain⟨e1,r1⟩:=k1
  obtain rfl:c1=_:=(qU (show[c1]=_ from e1)).1
  obtain⟨y2,k2⟩:=hf 2 _ AJ rfl opens_3
  obtain⟨e2,r2⟩:=k2
  obtain rfl:c2=_:=(qU (show[c2]=_ from e2)).1
  obtain⟨y3,k3⟩:=hf 3 _ AJ rfl opens_3
  obtain⟨e3,r3⟩:=k3
  obtain rfl:c3=_:=(qU (show[c3]=_ from e3)).1
  obtain⟨y4,k4⟩:=hf 4 _ (BZ.sl Cp) rfl opens_53
  obtain⟨w4,e4,r4⟩:=k4
  obtain rfl:c4=_:=(qU (show[c4]=_ from e4)).1
  obtain⟨y5,k5⟩:=hf 5 _ Mm rfl opens_65
  obtain⟨w5_0,w5_1,e5,r5_0,r5_1⟩:=k5
  obtain⟨rfl,rfl⟩:c5=_∧c6=_:=by simpa using (show[c5,c6]=_ from e5)
  obtain⟨y6,k6⟩:=hf 6 _ AJ rfl opens_3
  obtain⟨e6,r6⟩:=k6
  obtain rfl:c7=_:=(qU (show[c7]=_ from e6)).1
  obtain⟨y7,k7⟩:=hf 7 _ AJ rfl opens_3
  obtain⟨e7,r7⟩:=k7
  obtain rfl:c8=_:=(qU (show[c8]=_ from e7)).1
  obtain⟨y8,k8⟩:=hf 8 _ AJ rfl opens_3
  obtain⟨e8,r8⟩:=k8
  obtain rfl:c9=_:=(qU (show[c9]=_ from e8)).1
  obtain⟨y9,k9⟩:=hf 9 _ AJ rfl opens_3
  obtain⟨e9,r9⟩:=k9
  obtain rfl:c10=_:=(qU (show[c10]=_ from e9)).1
  obtain⟨y10,k10⟩:=hf 10 _ AJ rfl opens_3
  obtain⟨e10,r10⟩:=k10
  obtain rfl:c11=_:=(qU (show[c11]=_ from e10)).1
  obtain⟨y11,k11⟩:=hf 11 _ AJ rfl opens_3
  obtain⟨e11,r11⟩:=k11
  obtain rfl:c12=_:=(qU (show[c12]=_ from e11)).1
  obtain⟨y12,k12⟩:=hf 12 _ AJ rfl opens_3
  obtain⟨e12,r12⟩:=k12
  obtain rfl:c13=_:=(qU (show[c13]=_ from e12)).1
  obtain⟨y13,k13⟩:=hf 13 _ AJ rfl opens_3
  obtain⟨e13,r13⟩:=k13
  obtain rfl:c14=_:=(qU (show[c14]=_ from e13)).1
  obtain⟨y14,k14⟩:=hf 14 _ AJ rfl opens_3
  obtain⟨e14,r14⟩:=k14
  obtain rfl:c15=_:=(qU (show[c15]=_ from e14)).1
  obtain⟨y15,k15⟩:=hf 15 _ AJ rfl opens_3
  obtain⟨e15,r15⟩:=k15
  obtain rfl:c16=_:=(qU (show[c16]=_ from e15)).1
  obtain⟨y16,k16⟩:=hf 16 _ AJ rfl opens_3
  obtain⟨e16,r16⟩:=k16
  obtain rfl:c17=_:=(qU (show[c17]=_ from e16)).1
  exact⟨⟨y0,y1,y2,y3,y4,y5,y6,y7,y8,y9,y10,y11,y12,y13,y14,y15,y16⟩,⟨c4,c5,c6,rfl,r0,r1,r2,r3,r4,r5_0,r5_1,r6,r7,r8,r9,r10,r11,r12,r13,r14,r15,r16⟩⟩
theorem opens_24:FJ prog 24 (BZ.sl Ct):=HH (by kernel_rfl) underlying24 opens_67 rfl
theorem opens_124:FJ prog 124 HL:=by
 have hc:prog.cellsOf 124=7:=by kernel_rfl
 refine⟨hc,λ{H enc w base spare held fuel cs x} h=>?_⟩
 obtain⟨hl,hf⟩:=EH underlying124 h
 rw[hc] at hl
 match cs,hl with
 |[c0,c1,c2,c3,c4,c5,c6],_=>
  obtain⟨y0,k0⟩:=hf 0 _ BZ.str rfl opens_9
  obtain⟨e0,r0⟩:=k0
  obtain rfl:c0=_:=(qU (show[c0]=_ from e0)).1
  obtain⟨y1,k1⟩:=hf 1 _ AJ rfl opens_3
  obtain⟨e1,r1⟩:=k1
  obtain rfl:c1=_:=(qU (show[c1]=_ from e1)).1
  obtain⟨y2,k2⟩:=hf 2 _ AJ rfl opens_3
  obtain⟨e2,r2⟩:=k2
  obtain rfl:c2=_:=(qU (show[c2]=_ from e2)).1
  obtain⟨y3,k3⟩:=hf 3 _ AJ rfl opens_3
  obtain⟨e3,r3⟩:=k3
  obtain rfl:c3=_:=(qU (show[c3]=_ from e3)).1
  obtain⟨y4,k4⟩:=hf 4 _ AJ rfl opens_3
  obtain⟨e4,r4⟩:=k4
  obtain rfl:c4=_:=(qU (show[c4]=_ from e4)).1
  obtain⟨y5,k5⟩:=hf 5 _ AJ rfl opens_3
  obtain⟨e5,r5⟩:=k5
  obtain rfl:c5=_:=(qU (show[c5]=_ from e5)).1
  obtain⟨y6,k6⟩:=hf 6 _ AJ rfl opens_3
  obtain⟨e6,r6⟩:=k6
  obtain rfl:c6=_:=(qU (show[c6]=_ from e6)).1
  exact⟨⟨y0,y1,y2,y3,y4,y5,y6⟩,⟨rfl,⟨r0,r1,r2,r3,r4,r5,r6⟩⟩⟩
theorem opens_25:FJ prog 25 (BZ.sl HL):=HH (by kernel_rfl) underlying25 opens_124 rfl
theorem opens_128:FJ prog 128 Fc:=by
 have hc:prog.cellsOf 128=5:=by kernel_rfl
 refine⟨hc,λ{H enc w base spare held fuel cs x} h=>?_⟩
 obtain⟨hl,hf⟩:=EH underlying128 h
 rw[hc] at hl
 match cs,hl with
 |[c0,c1,c2,c3,c4],_=>
  obtain⟨y0,k0⟩:=hf 0 _ BZ.str rfl opens_9
  obtain⟨e0,r0⟩:=k0
  obtain rfl:c0=_:=(qU (show[c0]=_ from e0)).1
  obtain⟨y1,k1⟩:=hf 1 _ AJ rfl opens_3
  obtain⟨e1,r1⟩:=k1
  obtain rfl:c1=_:=(qU (show[c1]=_ from e1)).1
  obtain⟨y2,k2⟩:=hf 2 _ AJ rfl opens_3
  obtain⟨e2,r2⟩:=k2
  obtain rfl:c2=_:=(qU (show[c2]=_ from e2)).1
  obtain⟨y3,k3⟩:=hf 3 _ AJ rfl opens_3
  obtain⟨e3,r3⟩:=k3
  obtain rfl:c3=_:=(qU (show[c3]=_ from e3)).1
  obtain⟨y4,k4⟩:=hf 4 _ AJ rfl opens_3
  obtain⟨e4,r4⟩:=k4
  obtain rfl:c4=_:=(qU (show[c4]=_ from e4)).1
  exact⟨⟨y0,y1,y2,y3,y4⟩,⟨rfl,⟨r0,r1,r2,r3,r4⟩⟩⟩
theorem opens_26:FJ prog 26 (BZ.sl Fc):=HH (by kernel_rfl) underlying26 opens_128 rfl
theorem opens_130:FJ prog 130 HN:=by
 have hc:prog.cellsOf 130=7:=by kernel_rfl
 refine⟨hc,λ{H enc w base spare held fuel cs x} h=>?_⟩
 obtain⟨hl,hf⟩:=EH underlying130 h
 rw[hc] at hl
 match cs,hl with
 |[c0,c1,c2,c3,c4,c5,c6],_=>
  obtain⟨y0,k0⟩:=hf 0 _ BZ.str rfl opens_9
  obtain⟨e0,r0⟩:=k0
  obtain rfl:c0=_:=(qU (show[c0]=_ from e0)).1
  obtain⟨y1,k1⟩:=hf 1 _ AJ rfl opens_3
  obtain⟨e1,r1⟩:=k1
  obtain rfl:c1=_:=(qU (show[c1]=_ from e1)).1
  obtain⟨y2,k2⟩:=hf 2 _ AJ rfl opens_3
  obtain⟨e2,r2⟩:=k2
  obtain rfl:c2=_:=(qU (show[c2]=_ from e2)).1
  obtain⟨y3,k3⟩:=hf 3 _ AJ rfl opens_3
  obtain⟨e3,r3⟩:=k3
  obtain rfl:c3=_:=(qU (show[c3]=_ from e3)).1
  obtain⟨y4,k4⟩:=hf 4 _ AJ rfl opens_3
  obtain⟨e4,r4⟩:=k4
  obtain rfl:c4=_:=(qU (show[c4]=_ from e4)).1
  obtain⟨y5,k5⟩:=hf 5 _ AJ rfl opens_3
  obtain⟨e5,r5⟩:=k5
  obtain rfl:c5=_:=(qU (show[c5]=_ from e5)).1
  obtain⟨y6,k6⟩:=hf 6 _ AJ rfl opens_3
  obtain⟨e6,r6⟩:=k6
  obtain rfl:c6=_:=(qU (show[c6]=_ from e6)).1
  exact⟨⟨y0,y1,y2,y3,y4,y5,y6⟩,⟨rfl,⟨r0,r1,r2,r3,r4,r5,r6⟩⟩⟩
theorem opens_27:FJ prog 27 (BZ.sl HN):=HH (by kernel_rfl) underlying27 opens_130 rfl
theorem opens_126:FJ prog 126 Dy:=by
 have hc:prog.cellsOf 126=2:=by kernel_rfl
 refine⟨hc,λ{H enc w base spare held fuel cs x} h=>?_⟩
 obtain⟨hl,hf⟩:=EH underlying126 h
 rw[hc] at hl
 match cs,hl with
 |[c0,c1],_=>
  obtain⟨y0,k0⟩:=hf 0 _ BZ.str rfl opens_9
  obtain⟨e0,r0⟩:=k0
  obtain rfl:c0=_:=(qU (show[c0]=_ from e0)).1
  obtain⟨y1,k1⟩:=hf 1 _ AJ rfl opens_3
  obtain⟨e1,r1⟩:=k1
  obtain rfl:c1=_:=(qU (show[c1]=_ from e1)).1
  exact⟨⟨y0,y1⟩,⟨rfl,⟨r0,r1⟩⟩⟩
theorem opens_28:FJ prog 28 (BZ.sl Dy):=HH (by kernel_rfl) underlying28 opens_126 rfl
theorem opens_31:FJ prog 31 C2:=by
 have hc:prog.cellsOf 31=11:=by kernel_rfl
 refine⟨hc,λ{H enc w base spare held fuel cs x} h=>?_⟩
 obtain⟨hl,hf⟩:=EH underlying31 h
 rw[hc] at hl
 match cs,hl with
 |[c0,c1,c2,c3,c4,c5,c6,c7,c8,c9,c10],_=>
  obtain⟨y0,k0⟩:=hf 0 _ BZ.str rfl opens_9
  obtain⟨e0,r0⟩:=k0
  obtain rfl:c0=_:=(qU (show[c0]=_ from e0)).1
  obtain⟨y1,k1⟩:=hf 1 _ (BZ.sl BZ.str) rfl opens_22
  obtain⟨w1,e1,r1⟩:=k1
  obtain rfl:c1=_:=(qU (show[c1]=_ from e1)).1
  obtain⟨y2,k2⟩:=hf 2 _ AJ rfl opens_3
  obtain⟨e2,r2⟩:=k2
  obtain rfl:c2=_:=(qU (show[c2]=_ from e2)).1
  obtain⟨y3,k3⟩:=hf 3 _ (BZ.sl Cw) rfl opens_23
  obtain⟨w3,e3,r3⟩:=k3
  obtain rfl:c3=_:=(qU (show[c3]=_ from e3)).1
  obtain⟨y4,k4⟩:=hf 4 _ (BZ.sl Ct) rfl opens_24
  obtain⟨w4,e4,r4⟩:=k4
  obtain rfl:c4=_:=(qU (show[c4]=_ from e4)).1
  obtain⟨y5,k5⟩:=hf 5 _ (BZ.sl HL) rfl opens_25
  obtain⟨w5,e5,r5⟩:=k5
  obtain rfl:c5=_:=(qU (show[c5]=_ from e5)).1
  obtain⟨y6,k6⟩:=hf 6 _ (BZ.sl Fc) rfl opens_26
  obtain⟨w6,e6,r6⟩:=k6
  obtain rfl:c6=_:=(qU (show[c6]=_ from e6)).1
  obtain⟨y7,k7⟩:=hf 7 _ (BZ.sl HN) rfl opens_27
  obtain⟨w7,e7,r7⟩:=k7
  obtain rfl:c7=_:=(qU (show[c7]=_ from e7)).1
  obtain⟨y8,k8⟩:=hf 8 _ (BZ.sl Dy) rfl opens_28
  obtain⟨w8,e8,r8⟩:=k8
  obtain rfl:c8=_:=(qU (show[c8]=_ from e8)).1
  obtain⟨y9,k9⟩:=hf 9 _ (BZ.sl AJ) rfl opens_29
  obtain⟨w9,e9,r9⟩:=k9
  obtain rfl:c9=_:=(qU (show[c9]=_ from e9)).1
  obtain⟨y10,k10⟩:=hf 10 _ AJ rfl opens_3
  obtain⟨e10,r10⟩:=k10
  obtain rfl:c10=_:=(qU (show[c10]=_ from e10)).1
  exact⟨⟨y0,y1,y2,y3,y4,y5,y6,y7,y8,y9,y10⟩,⟨c1,c3,c4,c5,c6,c7,c8,c9,rfl,r0,r1,r2,r3,r4,r5,r6,r7,r8,r9,r10⟩⟩
theorem opens_32:FJ prog 32 (BZ.sl (BZ.sl AJ)):=HH (by kernel_rfl) underlying32 opens_29 rfl
theorem opens_60:FJ prog 60 BJ:=by
 have hc:prog.cellsOf 60=3:=by kernel_rfl
 refine⟨hc,λ{H enc w base spare held fuel cs x} h=>?_⟩
 obtain⟨hl,hf⟩:=EH underlying60 h
 rw[hc] at hl
 match cs,hl with
 |[c0,c1,c2],_=>
  obtain⟨y0,k0⟩:=hf 0 _ AJ rfl opens_3
  obtain⟨e0,r0⟩:=k0
  obtain rfl:c0=_:=(qU (show[c0]=_ from e0)).1
  obtain⟨y1,k1⟩:=hf 1 _ AJ rfl opens_3
  obtain⟨e1,r1⟩:=k1
  obtain rfl:c1=_:=(qU (show[c1]=_ from e1)).1
  obtain⟨y2,k2⟩:=hf 2 _ (BZ.sl AJ) rfl opens_29
  obtain⟨w2,e2,r2⟩:=k2
  obtain rfl:c2=_:=(qU (show[c2]=_ from e2)).1
  exact⟨⟨y0,y1,y2⟩,⟨c2,rfl,r0,r1,r2⟩⟩
theorem opens_33:FJ prog 33 (BZ.sl BJ):=HH (by kernel_rfl) underlying33 opens_60 rfl
theorem opens_4:FJ prog 4 BZ.bool:=VI (by kernel_rfl) underlying4
theorem opens_69:FJ prog 69 Bz:=by
 have hc:prog.cellsOf 69=4:=by kernel_rfl
 refine⟨hc,λ{H enc w base spare held fuel cs x} h=>?_⟩
 obtain⟨hl,hf⟩:=EH underlying69 h
 rw[hc] at hl
 match cs,hl with
 |[c0,c1,c2,c3],_=>
  obtain⟨y0,k0⟩:=hf 0 _ AJ rfl opens_3
  obtain⟨e0,r0⟩:=k0
  obtain rfl:c0=_:=(qU (show[c0]=_ from e0)).1
  obtain⟨y1,k1⟩:=hf 1 _ AJ rfl opens_3
  obtain⟨e1,r1⟩:=k1
  obtain rfl:c1=_:=(qU (show[c1]=_ from e1)).1
  obtain⟨y2,k2⟩:=hf 2 _ BZ.bool rfl opens_4
  obtain rfl:c2=_:=(qU (show[c2]=_ from k2)).1
  obtain⟨y3,k3⟩:=hf 3 _ BZ.bool rfl opens_4
  obtain rfl:c3=_:=(qU (show[c3]=_ from k3)).1
  exact⟨⟨y0,y1,y2,y3⟩,⟨rfl,⟨r0,r1⟩⟩⟩
theorem opens_34:FJ prog 34 (BZ.sl Bz):=HH (by kernel_rfl) underlying34 opens_69 rfl
theorem opens_36:FJ prog 36 DE:=by
 have hc:prog.cellsOf 36=7:=by kernel_rfl
 refine⟨hc,λ{H enc w base spare held fuel cs x} h=>?_⟩
 obtain⟨hl,hf⟩:=EH underlying36 h
 rw[hc] at hl
 match cs,hl with
 |[c0,c1,c2,c3,c4,c5,c6],_=>
  obtain⟨y0,k0⟩:=hf 0 _ AJ rfl opens_3
  obtain⟨e0,r0⟩:=k0
  obtain rfl:c0=_:=(qU (show[c0]=_ from e0)).1
  obtain⟨y1,k1⟩:=hf 1 _ (BZ.sl (BZ.sl AJ)) rfl opens_32
  obtain⟨w1,e1,r1⟩:=k1
  obtain rfl:c1=_:=(qU (show[c1]=_ from e1)).1
  obtain⟨y2,k2⟩:=hf 2 _ (BZ.sl AJ) rfl opens_29
  obtain⟨w2,e2,r2⟩:=k2
  obtain rfl:c2=_:=(qU (show[c2]=_ from e2)).1
  obtain⟨y3,k3⟩:=hf 3 _ (BZ.sl BJ) rfl opens_33
  obtain⟨w3,e3,r3⟩:=k3
  obtain rfl:c3=_:=(qU (show[c3]=_ from e3)).1
  obtain⟨y4,k4⟩:=hf 4 _ (BZ.sl Bz) rfl opens_34
  obtain⟨w4,e4,r4⟩:=k4
  obtain rfl:c4=_:=(qU (show[c4]=_ from e4)).1
  obtain⟨y5,k5⟩:=hf 5 _ (BZ.sl AJ) rfl opens_29
  obtain⟨w5,e5,r5⟩:=k5
  obtain rfl:c5=_:=(qU (show[c5]=_ from e5)).1
  obtain⟨y6,k6⟩:=hf 6 _ (BZ.sl AJ) rfl opens_29
  obtain⟨w6,e6,r6⟩:=k6
  obtain rfl:c6=_:=(qU (show[c6]=_ from e6)).1
  exact⟨⟨y0,y1,y2,y3,y4,y5,y6⟩,⟨c1,c2,c3,c4,c5,c6,rfl,r0,r1,r2,r3,r4,r5,r6⟩⟩
theorem opens_71:FJ prog 71 Gc:=by
 have hc:prog.cellsOf 71=2:=by kernel_rfl
 refine⟨hc,λ{H enc w base spare held fuel cs x} h=>?_⟩
 obtain⟨hl,hf⟩:=EH underlying71 h
 rw[hc] at hl
 match cs,hl with
 |[c0,c1],_=>
  obtain⟨y0,k0⟩:=hf 0 _ AJ rfl opens_3
  obtain⟨e0,r0⟩:=k0
  obtain rfl:c0=_:=(qU (show[c0]=_ from e0)).1
  obtain⟨y1,k1⟩:=hf 1 _ AJ rfl opens_3
  obtain⟨e1,r1⟩:=k1
  obtain rfl:c1=_:=(qU (show[c1]=_ from e1)).1
  exact⟨⟨y0,y1⟩,⟨rfl,⟨r0,r1⟩⟩⟩
theorem opens_37:FJ prog 37 (BZ.sl Gc):=HH (by kernel_rfl) underlying37 opens_71 rfl
theorem opens_74:FJ prog 74 JX:=by
 have hc:prog.cellsOf 74=2:=by kernel_rfl
 refine⟨hc,λ{H enc w base spare held fuel cs x} h=>?_⟩
 obtain⟨hl,hf⟩:=EH underlying74 h
 rw[hc] at hl
 match cs,hl with
 |[c0,c1],_=>
  obtain⟨y0,k0⟩:=hf 0 _ AJ rfl opens_3
  obtain⟨e0,r0⟩:=k0
  obtain rfl:c0=_:=(qU (show[c0]=_ from e0)).1
  obtain⟨y1,k1⟩:=hf 1 _ AJ rfl opens_3
  obtain⟨e1,r1⟩:=k1
  obtain rfl:c1=_:=(qU (show[c1]=_ from e1)).1
  exact⟨⟨y0,y1⟩,⟨rfl,⟨r0,r1⟩⟩⟩
theorem opens_38:FJ prog 38 (BZ.sl JX):=HH (by kernel_rfl) underlying38 opens_74 rfl
theorem opens_78:FJ prog 78 Gd:=by
 have hc:prog.cellsOf 78=4:=by kernel_rfl
 refine⟨hc,λ{H enc w base spare held fuel cs x} h=>?_⟩
 obtain⟨hl,hf⟩:=EH underlying78 h
 rw[hc] at hl
 match cs,hl with
 |[c0,c1,c2,c3],_=>
  obtain⟨y0,k0⟩:=hf 0 _ AJ rfl opens_3
  obtain⟨e0,r0⟩:=k0
  obtain rfl:c0=_:=(qU (show[c0]=_ from e0)).1
  obtain⟨y1,k1⟩:=hf 1 _ AJ rfl opens_3
  obtain⟨e1,r1⟩:=k1
  obtain rfl:c1=_:=(qU (show[c1]=_ from e1)).1
  obtain⟨y2,k2⟩:=hf 2 _ AJ rfl opens_3
  obtain⟨e2,r2⟩:=k2
  obtain rfl:c2=_:=(qU (show[c2]=_ from e2)).1
  obtain⟨y3,k3⟩:=hf 3 _ AJ rfl opens_3
  obtain⟨e3,r3⟩:=k3
  obtain rfl:c3=_:=(qU (show[c3]=_ from e3)).1
  exact⟨⟨y0,y1,y2,y3⟩,⟨rfl,⟨r0,r1,r2,r3⟩⟩⟩
theorem opens_39:FJ prog 39 (BZ.sl Gd):=HH (by kernel_rfl) underlying39 opens_78 rfl
theorem opens_103:FJ prog 103 HM:=by
 have hc:prog.cellsOf 103=4:=by kernel_rfl
 refine⟨hc,λ{H enc w base spare held fuel cs x} h=>?_⟩
 obtain⟨hl,hf⟩:=EH underlying103 h
 rw[hc] at hl
 match cs,hl with
 |[c0,c1,c2,c3],_=>
  obtain⟨y0,k0⟩:=hf 0 _ AJ rfl opens_3
  obtain⟨e0,r0⟩:=k0
  obtain rfl:c0=_:=(qU (show[c0]=_ from e0)).1
  obtain⟨y1,k1⟩:=hf 1 _ AJ rfl opens_3
  obtain⟨e1,r1⟩:=k1
  obtain rfl:c1=_:=(qU (show[c1]=_ from e1)).1
  obtain⟨y2,k2⟩:=hf 2 _ AJ rfl opens_3
  obtain⟨e2,r2⟩:=k2
  obtain rfl:c2=_:=(qU (show[c2]=_ from e2)).1
  obtain⟨y3,k3⟩:=hf 3 _ AJ rfl opens_3
  obtain⟨e3,r3⟩:=k3
  obtain rfl:c3=_:=(qU (show[c3]=_ from e3)).1
  exact⟨⟨y0,y1,y2,y3⟩,⟨rfl,⟨r0,r1,r2,r3⟩⟩⟩
theorem opens_40:FJ prog 40 (BZ.sl HM):=HH (by kernel_rfl) underlying40 opens_103 rfl
theorem opens_42:FJ prog 42 G0:=by
 have hc:prog.cellsOf 42=5:=by kernel_rfl
 refine⟨hc,λ{H enc w base spare held fuel cs x} h=>?_⟩
 obtain⟨hl,hf⟩:=EH underlying42 h
 rw[hc] at hl
 match cs,hl with
 |[c0,c1,c2,c3,c4],_=>
  obtain⟨y0,k0⟩:=hf 0 _ (BZ.sl AJ) rfl opens_29
  obtain⟨w0,e0,r0⟩:=k0
  obtain rfl:c0=_:=(qU (show[c0]=_ from e0)).1
  obtain⟨y1,k1⟩:=hf 1 _ (BZ.sl Gc) rfl opens_37
  obtain⟨w1,e1,r1⟩:=k1
  obtain rfl:c1=_:=(qU (show[c1]=_ from e1)).1
  obtain⟨y2,k2⟩:=hf 2 _ (BZ.sl JX) rfl opens_38
  obtain⟨w2,e2,r2⟩:=k2
  obtain rfl:c2=_:=(qU (show[c2]=_ from e2)).1
  obtain⟨y3,k3⟩:=hf 3 _ (BZ.sl Gd) rfl opens_39
  obtain⟨w3,e3,r3⟩:=k3
  obtain rfl:c3=_:=(qU (show[c3]=_ from e3)).1
  obtain⟨y4,k4⟩:=hf 4 _ (BZ.sl HM) rfl opens_40
  obtain⟨w4,e4,r4⟩:=k4
  obtain rfl:c4=_:=(qU (show[c4]=_ from e4)).1
  exact⟨⟨y0,y1,y2,y3,y4⟩,⟨c0,c1,c2,c3,c4,rfl,r0,r1,r2,r3,r4⟩⟩
set_option maxRecDepth 100000 in
theorem smore_holds_lifted (os:Os) (started:os.Started) (H:Type) (enc:TypeId×Value→H):
  ReturnsInHanded {} Tryz.checked os 8 .any (Rows.stepMoreSpec.pre6 enc prog Tryz.f8 Rows.stepMoreRow.domain false) (Rows.stepMoreSpec.post enc prog Tryz.f8 false true false false):=by
 refine returnsInHanded_of_change (C:=Tryz.checked) (by kernel_rfl) started (by kernel_rfl) func8
  (ChangeSpec.witness6 (enc:=enc) (C:=Tryz.checked) false ⟨#[],#[.agg #[.string ByteArray.empty,.slice none 0 0,.int .i64 0,.slice none 0 0,.slice none 0 0,.slice none 0 0,.slice none 0 0,.slice none 0 0,.slice none 0 0,.slice none 0 0,.int .i64 0],.agg #[.int .i64 0,.slice none 0 0,.slice none 0 0,.slice none 0 0,.slice none 0 0,.slice none 0 0,.slice none 0 0],.agg #[.slice none 0 0,.slice none 0 0,.slice none 0 0,.slice none 0 0,.slice none 0 0],.int .i64 0,.int .i64 0],[]⟩ 8 (by kernel_rfl) (by kernel_rfl) (by kernel_rfl) (by kernel_rfl)) ?_
 intro W base args ds gs before hval0 hW hcnd _
 have hval:∀(j:Nat) t v,Tryz.f8.params[j]? =some t→args[j]? =some v→Value.okWide prog W .any base t v:=hval0
 have hW':=hW
 obtain⟨p,q,hA0,hV,rfl,hfz,hnd⟩:=hW
 have hA:DataW.TrodAll enc prog W 0 (λ_=>true) true Tryz.f8.params.toList args.toList ds p:=hA0
 rw[params8] at hA hval
 obtain⟨v0,vs0,d0,ds0,p0,q0,ha0,rfl,rfl,h0,r0⟩:=trodAll_cons hA
 obtain⟨v1,vs1,d1,ds1,p1,q1,rfl,rfl,rfl,h1,r1⟩:=trodAll_cons r0
 obtain⟨v2,vs2,d2,ds2,p2,q2,rfl,rfl,rfl,h2,r2⟩:=trodAll_cons r1
 obtain⟨v3,vs3,d3,ds3,p3,q3,rfl,rfl,rfl,h3,r3⟩:=trodAll_cons r2
 obtain⟨v4,vs4,d4,ds4,p4,q4,rfl,rfl,rfl,h4,r4⟩:=trodAll_cons r3
 obtain⟨rfl,rfl,rfl⟩:=trodAll_nil r4
 obtain rfl:args= #[v0,v1,v2,v3,v4]:=by cases args;simp_all
 obtain⟨rfl,rfl⟩:=trodVars_none hV
 obtain⟨x0,k0⟩:=VX opens_31 rfl underlying31 (hval 0 31 v0 rfl rfl) h0
 obtain⟨x1,k1⟩:=VX opens_36 rfl underlying36 (hval 1 36 v1 rfl rfl) h1
 obtain⟨x2,k2⟩:=VX opens_42 rfl underlying42 (hval 2 42 v2 rfl rfl) h2
 obtain⟨x3,k3⟩:=Wo opens_3 rfl rfl (Yb underlying3 (hval 3 3 v3 rfl rfl)) h3
 obtain⟨x4,k4⟩:=Wo opens_3 rfl rfl (Yb underlying3 (hval 4 3 v4 rfl rfl)) h4
 obtain⟨rfl,ki3⟩:=k3.int
 obtain⟨rfl,ki4⟩:=k4.int
 refine(XM (smore_ret (St.all W.heap) k0 k1 k2 x3 ki3 x4 ki4)).mono λe W' ⟨he,hb⟩=>⟨_,he,?_⟩
 exact Yk (tb:=4) (by kernel_rfl) (by kernel_rfl) hW' (by kernel_rfl) underlying4 rfl rfl rfl rfl hb
theorem smore_holds:Rows.StepMoreSaid:=
 OpenClaim.holds_of_wide 8 Tryz.f8 rfl rfl rfl rfl rfl rfl rfl ⟨rfl,rfl,rfl,rfl,rfl⟩ rfl rfl rfl rfl rfl (by kernel_rfl) func8 (by kernel_rfl)
  (tK (by kernel_rfl)) (by unfold Func.isWrapper;first|(rw [qR (by decide +kernel)];kernel_rfl)|(rw [qP (by decide +kernel)];exact⟨rfl,rfl⟩))
  (λos started H enc _=>smore_holds_lifted os started H enc)
end smore
end Go.Proofs.YtblcgjadhemlbaaGreat
