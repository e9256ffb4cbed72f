/- The law StepConserves holds for every input. No conditions. -/
import Derived.Test.YtblcgjadhemlbaaGreatUWalk18
import Derived.Test.YtblcgjadhemlbaaGreatUCore9
namespace Go.Proofs.YtblcgjadhemlbaaGreat
open Go.ChangeShapes Go.WideShapes Go.ChangeAt Go.RowKit
set_option linter.unusedVariables false
set_option linter.unusedSimpArgs false
namespace scons
theorem scons_ret {S:Nat→Prop}{L:List HP}{h:Av}(hs:St S L h) {v0:Value}{x0:AW}(k0:Rd S h B3 v0 x0) {v1:Value}{x1:Ak}(k1:Rd S h CJ v1 x1) {v2:Value}{x2:Ct}(k2:Rd S h Fg v2 x2):CG Tryz.prog 3 #[v0,v1,v2] S h (λv S' h'=>v= .bool true∧St S' L h'):=
 J5 hs k0 k1 k2 (Mx _ _ _)
theorem opens_9:ER Tryz.prog 9 AM.str:=VM (by kernel_rfl) Tryz.underlying9
theorem opens_22:ER Tryz.prog 22 (AM.sl AM.str):=Fw (by kernel_rfl) Tryz.underlying22 opens_9 rfl
theorem opens_3:ER Tryz.prog 3 AM.int:=VN (by kernel_rfl) Tryz.underlying3
theorem opens_98:ER Tryz.prog 98 Bq:=by
 have hc:Tryz.prog.cellsOf 98=2:=by kernel_rfl
 refine⟨hc,λ{H enc w base spare held fuel cs x} h=>?_⟩
 obtain⟨hl,hf⟩:=DC Tryz.underlying98 h
 rw[hc] at hl
 match cs,hl with
 |[c0,c1],_=>
  obtain⟨y0,k0⟩:=hf 0 _ AM.int rfl opens_3
  obtain⟨e0,r0⟩:=k0
  obtain rfl:c0=_:=(List.cons.inj (show[c0]=_ from e0)).1
  obtain⟨y1,k1⟩:=hf 1 _ AM.int rfl opens_3
  obtain⟨e1,r1⟩:=k1
  obtain rfl:c1=_:=(List.cons.inj (show[c1]=_ from e1)).1
  exact⟨⟨y0,y1⟩,⟨rfl,⟨r0,r1⟩⟩⟩
theorem opens_53:ER Tryz.prog 53 (AM.sl Bq):=Fw (by kernel_rfl) Tryz.underlying53 opens_98 rfl
theorem opens_29:ER Tryz.prog 29 (AM.sl AM.int):=Fw (by kernel_rfl) Tryz.underlying29 opens_3 rfl
theorem opens_134:ER Tryz.prog 134 KC:=by
 have hc:Tryz.prog.cellsOf 134=2:=by kernel_rfl
 refine⟨hc,λ{H enc w base spare held fuel cs x} h=>?_⟩
 obtain⟨hl,hf⟩:=DC Tryz.underlying134 h
 rw[hc] at hl
 match cs,hl with
 |[c0,c1],_=>
  obtain⟨y0,k0⟩:=hf 0 _ AM.int rfl opens_3
  obtain⟨e0,r0⟩:=k0
  obtain rfl:c0=_:=(List.cons.inj (show[c0]=_ from e0)).1
  obtain⟨y1,k1⟩:=hf 1 _ AM.int rfl opens_3
  obtain⟨e1,r1⟩:=k1
  obtain rfl:c1=_:=(List.cons.inj (show[c1]=_ from e1)).1
  exact⟨⟨y0,y1⟩,⟨rfl,⟨r0,r1⟩⟩⟩
theorem opens_54:ER Tryz.prog 54 (AM.sl KC):=Fw (by kernel_rfl) Tryz.underlying54 opens_134 rfl
theorem opens_56:ER Tryz.prog 56 Bw:=by
 have hc:Tryz.prog.cellsOf 56=12:=by kernel_rfl
 refine⟨hc,λ{H enc w base spare held fuel cs x} h=>?_⟩
 obtain⟨hl,hf⟩:=DC Tryz.underlying56 h
 rw[hc] at hl
 match cs,hl with
 |[c0,c1,c2,c3,c4,c5,c6,c7,c8,c9,c10,c11],_=>
  obtain⟨y0,k0⟩:=hf 0 _ AM.str rfl opens_9
  obtain⟨e0,r0⟩:=k0
  obtain rfl:c0=_:=(List.cons.inj (show[c0]=_ from e0)).1
  obtain⟨y1,k1⟩:=hf 1 _ AM.int rfl opens_3
  obtain⟨e1,r1⟩:=k1
  obtain rfl:c1=_:=(List.cons.inj (show[c1]=_ from e1)).1
  obtain⟨y2,k2⟩:=hf 2 _ AM.int rfl opens_3
  obtain⟨e2,r2⟩:=k2
  obtain rfl:c2=_:=(List.cons.inj (show[c2]=_ from e2)).1
  obtain⟨y3,k3⟩:=hf 3 _ AM.int rfl opens_3
  obtain⟨e3,r3⟩:=k3
  obtain rfl:c3=_:=(List.cons.inj (show[c3]=_ from e3)).1
  obtain⟨y4,k4⟩:=hf 4 _ (AM.sl Bq) rfl opens_53
  obtain⟨w4,e4,r4⟩:=k4
  obtain rfl:c4=_:=(List.cons.inj (show[c4]=_ from e4)).1
  obtain⟨y5,k5⟩:=hf 5 _ (AM.sl AM.int) rfl opens_29
  obtain⟨w5,e5,r5⟩:=k5
  obtain rfl:c5=_:=(List.cons.inj (show[c5]=_ from e5)).1
  obtain⟨y6,k6⟩:=hf 6 _ AM.int rfl opens_3
  obtain⟨e6,r6⟩:=k6
  obtain rfl:c6=_:=(List.cons.inj (show[c6]=_ from e6)).1
  obtain⟨y7,k7⟩:=hf 7 _ AM.int rfl opens_3
  obtain⟨e7,r7⟩:=k7
  obtain rfl:c7=_:=(List.cons.inj (show[c7]=_ from e7)).1
  obtain⟨y8,k8⟩:=hf 8 _ AM.int rfl opens_3
  obtain⟨e8,r8⟩:=k8
  obtain rfl:c8=_:=(List.cons.inj (show[c8]=_ from e8)).1
  obtain⟨y9,k9⟩:=hf 9 _ AM.int rfl opens_3
  obtain⟨e9,r9⟩:=k9
  obtain rfl:c9=_:=(List.cons.inj (show[c9]=_ from e9)).1
  obtain⟨y10,k10⟩:=hf 10 _ AM.int rfl opens_3
  obtain⟨e10,r10⟩:=k10
  obtain rfl:c10=_:=(List.cons.inj (show[c10]=_ from e10)).1
  obtain⟨y11,k11⟩:=hf 11 _ (AM.sl KC) rfl opens_54
  obtain⟨w11,e11,r11⟩:=k11
  obtain rfl:c11=_:=(List.cons.inj (show[c11]=_ from e11)).1
  exact⟨⟨y0,y1,y2,y3,y4,y5,y6,y7,y8,y9,y10,y11⟩,⟨c4,c5,c11,rfl,r0,r1,r2,r3,r4,r5,r6,r7,r8,r9,r10,r11⟩⟩
theorem opens_23:ER Tryz.prog 23 (AM.sl Bw):=Fw (by kernel_rfl) Tryz.underlying23 opens_56 rfl
theorem opens_65:ER Tryz.prog 65 Lr:=by
 have hc:Tryz.prog.cellsOf 65=2:=by kernel_rfl
 refine⟨hc,λ{H enc w base spare held fuel cs x} h=>?_⟩
 obtain⟨hl,hf⟩:=DC Tryz.underlying65 h
 rw[hc] at hl
 match cs,hl with
 |[c0,c1],_=>
  obtain⟨y0,k0⟩:=hf 0 _ (AM.sl Bq) rfl opens_53
  obtain⟨w0,e0,r0⟩:=k0
  obtain rfl:c0=_:=(List.cons.inj (show[c0]=_ from e0)).1
  obtain⟨y1,k1⟩:=hf 1 _ (AM.sl Bq) rfl opens_53
  obtain⟨w1,e1,r1⟩:=k1
  obtain rfl:c1=_:=(List.cons.inj (show[c1]=_ from e1)).1
  exact⟨⟨y0,y1⟩,⟨c0,c1,rfl,r0,r1⟩⟩
theorem opens_67:ER Tryz.prog 67 Bu:=by
 have hc:Tryz.prog.cellsOf 67=18:=by kernel_rfl
 refine⟨hc,λ{H enc w base spare held fuel cs x} h=>?_⟩
 obtain⟨hl,hf⟩:=DC Tryz.underlying67 h
 rw[hc] at hl
 match cs,hl with
 |[c0,c1,c2,c3,c4,c5,c6,c7,c8,c9,c10,c11,c12,c13,c14,c15,c16,c17],_=>
  obtain⟨y0,k0⟩:=hf 0 _ AM.str rfl opens_9
  obtain⟨e0,r0⟩:=k0
  obtain rfl:c0=_:=(List.cons.inj (show[c0]=_ from e0)).1
  obtain⟨y1,k1⟩:=hf 1 _ AM.int rfl opens_3
  obtain⟨e1,r1⟩:=k1
  obtain rfl:c1=_:=(List.cons.inj (show[c1]=_ from e1)).1
  obtain⟨y2,k2⟩:=hf 2 _ AM.int rfl opens_3
  obtain⟨e2,r2⟩:=k2
  obtain rfl:c2=_:=(List.cons.inj (show[c2]=_ from e2)).1
  obtain⟨y3,k3⟩:=hf 3 _ AM.int rfl opens_3
  obtain⟨e3,r3⟩:=k3
  obtain rfl:c3=_:=(List.cons.inj (show[c3]=_ from e3)).1
  obtain⟨y4,k4⟩:=hf 4 _ (AM.sl Bq) rfl opens_53
  obtain⟨w4,e4,r4⟩:=k4
  obtain rfl:c4=_:=(List.cons.inj (show[c4]=_ from e4)).1
  obtain⟨y5,k5⟩:=hf 5 _ Lr rfl opens_65
  obtain⟨w5_0,w5_1,e5,r5_0,r5_1⟩:=k5
  obtain⟨rfl,rfl⟩:c5=_∧c6=_:=by simpa using (show[c5,c6]=_ from e5)
  obtain⟨y6,k6⟩:=hf 6 _ AM.int rfl opens_3
  obtain⟨e6,r6⟩:=k6
  obtain rfl:c7=_:=(List.cons.inj (show[c7]=_ from e6)).1
  obtain⟨y7,k7⟩:=hf 7 _ AM.int rfl opens_3
  obtain⟨e7,r7⟩:=k7
  obtain rfl:c8=_:=(List.cons.inj (show[c8]=_ from e7)).1
  obtain⟨y8,k8⟩:=hf 8 _ AM.int rfl opens_3
  obtain⟨e8,r8⟩:=k8
  obtain rfl:c9=_:=(List.cons.inj (show[c9]=_ from e8)).1
  obtain⟨y9,k9⟩:=hf 9 _ AM.int rfl opens_3
  obtain⟨e9,r9⟩:=k9
  obtain rfl:c10=_:=(List.cons.inj (show[c10]=_ from e9)).1
  obtain⟨y10,k10⟩:=hf 10 _ AM.int rfl opens_3
  obtain⟨e10,r10⟩:=k10
  obtain rfl:c11=_:=(List.cons.inj (show[c11]=_ from e10)).1
  obtain⟨y11,k11⟩:=hf 11 _ AM.int rfl opens_3
  obtain⟨e11,r11⟩:=k11
  obtain rfl:c12=_:=(List.cons.inj (show[c12]=_ from e11)).1
  obtain⟨y12,k12⟩:=hf 12 _ AM.int rfl opens_3
  obtain⟨e12,r12⟩:=k12
  obtain rfl:c13=_:=(List.cons.inj (show[c13]=_ from e12)).1
  obtain⟨y13,k13⟩:=hf 13 _ AM.int rfl opens_3
  obtain⟨e13,r13⟩:=k13
  obtain rfl:c14=_:=(List.cons.inj (show[c14]=_ from e13)).1
  obtain⟨y14,k14⟩:=hf 14 _ AM.int rfl opens_3
  obtain⟨e14,r14⟩:=k14
  obtain rfl:c15=_:=(List.cons.inj (show[c15]=_ from e14)).1
  obtain⟨y15,k15⟩:=hf 15 _ AM.int rfl opens_3
  obtain⟨e15,r15⟩:=k15
  obtain rfl:c16=_:=(List.cons.inj (show[c16]=_ from e15)).1
  obtain⟨y16,k16⟩:=hf 16 _ AM.int rfl opens_3
  obtain⟨e16,r16⟩:=k16
  obtain rfl:c17=_:=(List.cons.inj (show[c17]=_ from e16)).1
  exact⟨⟨y0,y1,y2,y3,y4,y5,y6,y7,y8,y9,y10,y11,y12,y13,y14,y15,y16⟩,⟨c4,c5,c6,rfl,r0,r1,r2,r3,r4,r5_0,r5_1,r6,r7,r8,r9,r10,r11,r12,r13,r14,r15,r16⟩⟩
theorem opens_24:ER Tryz.prog 24 (AM.sl Bu):=Fw (by kernel_rfl) Tryz.underlying24 opens_67 rfl
theorem opens_124:ER Tryz.prog 124 GL:=by
 have hc:Tryz.prog.cellsOf 124=7:=by kernel_rfl
 refine⟨hc,λ{H enc w base spare held fuel cs x} h=>?_⟩
 obtain⟨hl,hf⟩:=DC Tryz.underlying124 h
 rw[hc] at hl
 match cs,hl with
 |[c0,c1,c2,c3,c4,c5,c6],_=>
  obtain⟨y0,k0⟩:=hf 0 _ AM.str rfl opens_9
  obtain⟨e0,r0⟩:=k0
  obtain rfl:c0=_:=(List.cons.inj (show[c0]=_ from e0)).1
  obtain⟨y1,k1⟩:=hf 1 _ AM.int rfl opens_3
  obtain⟨e1,r1⟩:=k1
  obtain rfl:c1=_:=(List.cons.inj (show[c1]=_ from e1)).1
  obtain⟨y2,k2⟩:=hf 2 _ AM.int rfl opens_3
  obtain⟨e2,r2⟩:=k2
  obtain rfl:c2=_:=(List.cons.inj (show[c2]=_ from e2)).1
  obtain⟨y3,k3⟩:=hf 3 _ AM.int rfl opens_3
  obtain⟨e3,r3⟩:=k3
  obtain rfl:c3=_:=(List.cons.inj (show[c3]=_ from e3)).1
  obtain⟨y4,k4⟩:=hf 4 _ AM.int rfl opens_3
  obtain⟨e4,r4⟩:=k4
  obtain rfl:c4=_:=(List.cons.inj (show[c4]=_ from e4)).1
  obtain⟨y5,k5⟩:=hf 5 _ AM.int rfl opens_3
  obtain⟨e5,r5⟩:=k5
  obtain rfl:c5=_:=(List.cons.inj (show[c5]=_ from e5)).1
  obtain⟨y6,k6⟩:=hf 6 _ AM.int rfl opens_3
  obtain⟨e6,r6⟩:=k6
  obtain rfl:c6=_:=(List.cons.inj (show[c6]=_ from e6)).1
  exact⟨⟨y0,y1,y2,y3,y4,y5,y6⟩,⟨rfl,⟨r0,r1,r2,r3,r4,r5,r6⟩⟩⟩
theorem opens_25:ER Tryz.prog 25 (AM.sl GL):=Fw (by kernel_rfl) Tryz.underlying25 opens_124 rfl
theorem opens_128:ER Tryz.prog 128 EN:=by
 have hc:Tryz.prog.cellsOf 128=5:=by kernel_rfl
 refine⟨hc,λ{H enc w base spare held fuel cs x} h=>?_⟩
 obtain⟨hl,hf⟩:=DC Tryz.underlying128 h
 rw[hc] at hl
 match cs,hl with
 |[c0,c1,c2,c3,c4],_=>
  obtain⟨y0,k0⟩:=hf 0 _ AM.str rfl opens_9
  obtain⟨e0,r0⟩:=k0
  obtain rfl:c0=_:=(List.cons.inj (show[c0]=_ from e0)).1
  obtain⟨y1,k1⟩:=hf 1 _ AM.int rfl opens_3
  obtain⟨e1,r1⟩:=k1
  obtain rfl:c1=_:=(List.cons.inj (show[c1]=_ from e1)).1
  obtain⟨y2,k2⟩:=hf 2 _ AM.int rfl opens_3
  obtain⟨e2,r2⟩:=k2
  obtain rfl:c2=_:=(List.cons.inj (show[c2]=_ from e2)).1
  obtain⟨y3,k3⟩:=hf 3 _ AM.int rfl opens_3
  obtain⟨e3,r3⟩:=k3
  obtain rfl:c3=_:=(List.cons.inj (show[c3]=_ from e3)).1
  obtain⟨y4,k4⟩:=hf 4 _ AM.int rfl opens_3
  obtain⟨e4,r4⟩:=k4
  obtain rfl:c4=_:=(List.cons.inj (show[c4]=_ from e4)).1
  exact⟨⟨y0,y1,y2,y3,y4⟩,⟨rfl,⟨r0,r1,r2,r3,r4⟩⟩⟩
theorem opens_26:ER Tryz.prog 26 (AM.sl EN):=Fw (by kernel_rfl) Tryz.underlying26 opens_128 rfl
theorem opens_130:ER Tryz.prog 130 F8:=by
 have hc:Tryz.prog.cellsOf 130=7:=by kernel_rfl
 refine⟨hc,λ{H enc w base spare held fuel cs x} h=>?_⟩
 obtain⟨hl,hf⟩:=DC Tryz.underlying130 h
 rw[hc] at hl
 match cs,hl with
 |[c0,c1,c2,c3,c4,c5,c6],_=>
  obtain⟨y0,k0⟩:=hf 0 _ AM.str rfl opens_9
  obtain⟨e0,r0⟩:=k0
  obtain rfl:c0=_:=(List.cons.inj (show[c0]=_ from e0)).1
  obtain⟨y1,k1⟩:=hf 1 _ AM.int rfl opens_3
  obtain⟨e1,r1⟩:=k1
  obtain rfl:c1=_:=(List.cons.inj (show[c1]=_ from e1)).1
  obtain⟨y2,k2⟩:=hf 2 _ AM.int rfl opens_3
  obtain⟨e2,r2⟩:=k2
  obtain rfl:c2=_:=(List.cons.inj (show[c2]=_ from e2)).1
  obtain⟨y3,k3⟩:=hf 3 _ AM.int rfl opens_3
  obtain⟨e3,r3⟩:=k3
  obtain rfl:c3=_:=(List.cons.inj (show[c3]=_ from e3)).1
  obtain⟨y4,k4⟩:=hf 4 _ AM.int rfl opens_3
  obtain⟨e4,r4⟩:=k4
  obtain rfl:c4=_:=(List.cons.inj (show[c4]=_ from e4)).1
  obtain⟨y5,k5⟩:=hf 5 _ AM.int rfl opens_3
  obtain⟨e5,r5⟩:=k5
  obtain rfl:c5=_:=(List.cons.inj (show[c5]=_ from e5)).1
  obtain⟨y6,k6⟩:=hf 6 _ AM.int rfl opens_3
  obtain⟨e6,r6⟩:=k6
  obtain rfl:c6=_:=(List.cons.inj (show[c6]=_ from e6)).1
  exact⟨⟨y0,y1,y2,y3,y4,y5,y6⟩,⟨rfl,⟨r0,r1,r2,r3,r4,r5,r6⟩⟩⟩
theorem opens_27:ER Tryz.prog 27 (AM.sl F8):=Fw (by kernel_rfl) Tryz.underlying27 opens_130 rfl
theorem opens_126:ER Tryz.prog 126 Cr:=by
 have hc:Tryz.prog.cellsOf 126=2:=by kernel_rfl
 refine⟨hc,λ{H enc w base spare held fuel cs x} h=>?_⟩
 obtain⟨hl,hf⟩:=DC Tryz.underlying126 h
 rw[hc] at hl
 match cs,hl with
 |[c0,c1],_=>
  obtain⟨y0,k0⟩:=hf 0 _ AM.str rfl opens_9
  obtain⟨e0,r0⟩:=k0
  obtain rfl:c0=_:=(List.cons.inj (show[c0]=_ from e0)).1
  obtain⟨y1,k1⟩:=hf 1 _ AM.int rfl opens_3
  obtain⟨e1,r1⟩:=k1
  obtain rfl:c1=_:=(List.cons.inj (show[c1]=_ from e1)).1
  exact⟨⟨y0,y1⟩,⟨rfl,⟨r0,r1⟩⟩⟩
theorem opens_28:ER Tryz.prog 28 (AM.sl Cr):=Fw (by kernel_rfl) Tryz.underlying28 opens_126 rfl
theorem opens_31:ER Tryz.prog 31 B3:=by
 have hc:Tryz.prog.cellsOf 31=11:=by kernel_rfl
 refine⟨hc,λ{H enc w base spare held fuel cs x} h=>?_⟩
 obtain⟨hl,hf⟩:=DC Tryz.underlying31 h
 rw[hc] at hl
 match cs,hl with
 |[c0,c1,c2,c3,c4,c5,c6,c7,c8,c9,c10],_=>
  obtain⟨y0,k0⟩:=hf 0 _ AM.str rfl opens_9
  obtain⟨e0,r0⟩:=k0
  obtain rfl:c0=_:=(List.cons.inj (show[c0]=_ from e0)).1
  obtain⟨y1,k1⟩:=hf 1 _ (AM.sl AM.str) rfl opens_22
  obtain⟨w1,e1,r1⟩:=k1
  obtain rfl:c1=_:=(List.cons.inj (show[c1]=_ from e1)).1
  obtain⟨y2,k2⟩:=hf 2 _ AM.int rfl opens_3
  obtain⟨e2,r2⟩:=k2
  obtain rfl:c2=_:=(List.cons.inj (show[c2]=_ from e2)).1
  obtain⟨y3,k3⟩:=hf 3 _ (AM.sl Bw) rfl opens_23
  obtain⟨w3,e3,r3⟩:=k3
  obtain rfl:c3=_:=(List.cons.inj (show[c3]=_ from e3)).1
  obtain⟨y4,k4⟩:=hf 4 _ (AM.sl Bu) rfl opens_24
  obtain⟨w4,e4,r4⟩:=k4
  obtain rfl:c4=_:=(List.cons.inj (show[c4]=_ from e4)).1
  obtain⟨y5,k5⟩:=hf 5 _ (AM.sl GL) rfl opens_25
  obtain⟨w5,e5,r5⟩:=k5
  obtain rfl:c5=_:=(List.cons.inj (show[c5]=_ from e5)).1
  obtain⟨y6,k6⟩:=hf 6 _ (AM.sl EN) rfl opens_26
  obtain⟨w6,e6,r6⟩:=k6
  obtain rfl:c6=_:=(List.cons.inj (show[c6]=_ from e6)).1
  obtain⟨y7,k7⟩:=hf 7 _ (AM.sl F8) rfl opens_27
  obtain⟨w7,e7,r7⟩:=k7
  obtain rfl:c7=_:=(List.cons.inj (show[c7]=_ from e7)).1
  obtain⟨y8,k8⟩:=hf 8 _ (AM.sl Cr) rfl opens_28
  obtain⟨w8,e8,r8⟩:=k8
  obtain rfl:c8=_:=(List.cons.inj (show[c8]=_ from e8)).1
  obtain⟨y9,k9⟩:=hf 9 _ (AM.sl AM.int) rfl opens_29
  obtain⟨w9,e9,r9⟩:=k9
  obtain rfl:c9=_:=(List.cons.inj (show[c9]=_ from e9)).1
  obtain⟨y10,k10⟩:=hf 10 _ AM.int rfl opens_3
  obtain⟨e10,r10⟩:=k10
  obtain rfl:c10=_:=(List.cons.inj (show[c10]=_ from e10)).1
  exact⟨⟨y0,y1,y2,y3,y4,y5,y6,y7,y8,y9,y10⟩,⟨c1,c3,c4,c5,c6,c7,c8,c9,rfl,r0,r1,r2,r3,r4,r5,r6,r7,r8,r9,r10⟩⟩
theorem opens_32:ER Tryz.prog 32 (AM.sl (AM.sl AM.int)):=Fw (by kernel_rfl) Tryz.underlying32 opens_29 rfl
theorem opens_60:ER Tryz.prog 60 Ap:=by
 have hc:Tryz.prog.cellsOf 60=3:=by kernel_rfl
 refine⟨hc,λ{H enc w base spare held fuel cs x} h=>?_⟩
 obtain⟨hl,hf⟩:=DC Tryz.underlying60 h
 rw[hc] at hl
 match cs,hl with
 |[c0,c1,c2],_=>
  obtain⟨y0,k0⟩:=hf 0 _ AM.int rfl opens_3
  obtain⟨e0,r0⟩:=k0
  obtain rfl:c0=_:=(List.cons.inj (show[c0]=_ from e0)).1
  obtain⟨y1,k1⟩:=hf 1 _ AM.int rfl opens_3
  obtain⟨e1,r1⟩:=k1
  obtain rfl:c1=_:=(List.cons.inj (show[c1]=_ from e1)).1
  obtain⟨y2,k2⟩:=hf 2 _ (AM.sl AM.int) rfl opens_29
  obtain⟨w2,e2,r2⟩:=k2
  obtain rfl:c2=_:=(List.cons.inj (show[c2]=_ from e2)).1
  exact⟨⟨y0,y1,y2⟩,⟨c2,rfl,r0,r1,r2⟩⟩
theorem opens_33:ER Tryz.prog 33 (AM.sl Ap):=Fw (by kernel_rfl) Tryz.underlying33 opens_60 rfl
theorem opens_4:ER Tryz.prog 4 AM.bool:=Th (by kernel_rfl) Tryz.underlying4
theorem opens_69:ER Tryz.prog 69 A8:=by
 have hc:Tryz.prog.cellsOf 69=4:=by kernel_rfl
 refine⟨hc,λ{H enc w base spare held fuel cs x} h=>?_⟩
 obtain⟨hl,hf⟩:=DC Tryz.underlying69 h
 rw[hc] at hl
 match cs,hl with
 |[c0,c1,c2,c3],_=>
  obtain⟨y0,k0⟩:=hf 0 _ AM.int rfl opens_3
  obtain⟨e0,r0⟩:=k0
  obtain rfl:c0=_:=(List.cons.inj (show[c0]=_ from e0)).1
  obtain⟨y1,k1⟩:=hf 1 _ AM.int rfl opens_3
  obtain⟨e1,r1⟩:=k1
  obtain rfl:c1=_:=(List.cons.inj (show[c1]=_ from e1)).1
  obtain⟨y2,k2⟩:=hf 2 _ AM.bool rfl opens_4
  obtain rfl:c2=_:=(List.cons.inj (show[c2]=_ from k2)).1
  obtain⟨y3,k3⟩:=hf 3 _ AM.bool rfl opens_4
  obtain rfl:c3=_:=(List.cons.inj (show[c3]=_ from k3)).1
  exact⟨⟨y0,y1,y2,y3⟩,⟨rfl,⟨r0,r1⟩⟩⟩
theorem opens_34:ER Tryz.prog 34 (AM.sl A8):=Fw (by kernel_rfl) Tryz.underlying34 opens_69 rfl
theorem opens_36:ER Tryz.prog 36 CJ:=by
 have hc:Tryz.prog.cellsOf 36=7:=by kernel_rfl
 refine⟨hc,λ{H enc w base spare held fuel cs x} h=>?_⟩
 obtain⟨hl,hf⟩:=DC Tryz.underlying36 h
 rw[hc] at hl
 match cs,hl with
 |[c0,c1,c2,c3,c4,c5,c6],_=>
  obtain⟨y0,k0⟩:=hf 0 _ AM.int rfl opens_3
  obtain⟨e0,r0⟩:=k0
  obtain rfl:c0=_:=(List.cons.inj (show[c0]=_ from e0)).1
  obtain⟨y1,k1⟩:=hf 1 _ (AM.sl (AM.sl AM.int)) rfl opens_32
  obtain⟨w1,e1,r1⟩:=k1
  obtain rfl:c1=_:=(List.cons.inj (show[c1]=_ from e1)).1
  obtain⟨y2,k2⟩:=hf 2 _ (AM.sl AM.int) rfl opens_29
  obtain⟨w2,e2,r2⟩:=k2
  obtain rfl:c2=_:=(List.cons.inj (show[c2]=_ from e2)).1
  obtain⟨y3,k3⟩:=hf 3 _ (AM.sl Ap) rfl opens_33
  obtain⟨w3,e3,r3⟩:=k3
  obtain rfl:c3=_:=(List.cons.inj (show[c3]=_ from e3)).1
  obtain⟨y4,k4⟩:=hf 4 _ (AM.sl A8) rfl opens_34
  obtain⟨w4,e4,r4⟩:=k4
  obtain rfl:c4=_:=(List.cons.inj (show[c4]=_ from e4)).1
  obtain⟨y5,k5⟩:=hf 5 _ (AM.sl AM.int) rfl opens_29
  obtain⟨w5,e5,r5⟩:=k5
  obtain rfl:c5=_:=(List.cons.inj (show[c5]=_ from e5)).1
  obtain⟨y6,k6⟩:=hf 6 _ (AM.sl AM.int) rfl opens_29
  obtain⟨w6,e6,r6⟩:=k6
  obtain rfl:c6=_:=(List.cons.inj (show[c6]=_ from e6)).1
  exact⟨⟨y0,y1,y2,y3,y4,y5,y6⟩,⟨c1,c2,c3,c4,c5,c6,rfl,r0,r1,r2,r3,r4,r5,r6⟩⟩
theorem opens_71:ER Tryz.prog 71 FL:=by
 have hc:Tryz.prog.cellsOf 71=2:=by kernel_rfl
 refine⟨hc,λ{H enc w base spare held fuel cs x} h=>?_⟩
 obtain⟨hl,hf⟩:=DC Tryz.underlying71 h
 rw[hc] at hl
 match cs,hl with
 |[c0,c1],_=>
  obtain⟨y0,k0⟩:=hf 0 _ AM.int rfl opens_3
  obtain⟨e0,r0⟩:=k0
  obtain rfl:c0=_:=(List.cons.inj (show[c0]=_ from e0)).1
  obtain⟨y1,k1⟩:=hf 1 _ AM.int rfl opens_3
  obtain⟨e1,r1⟩:=k1
  obtain rfl:c1=_:=(List.cons.inj (show[c1]=_ from e1)).1
  exact⟨⟨y0,y1⟩,⟨rfl,⟨r0,r1⟩⟩⟩
theorem opens_37:ER Tryz.prog 37 (AM.sl FL):=Fw (by kernel_rfl) Tryz.underlying37 opens_71 rfl
theorem opens_74:ER Tryz.prog 74 IX:=by
 have hc:Tryz.prog.cellsOf 74=2:=by kernel_rfl
 refine⟨hc,λ{H enc w base spare held fuel cs x} h=>?_⟩
 obtain⟨hl,hf⟩:=DC Tryz.underlying74 h
 rw[hc] at hl
 match cs,hl with
 |[c0,c1],_=>
  obtain⟨y0,k0⟩:=hf 0 _ AM.int rfl opens_3
  obtain⟨e0,r0⟩:=k0
  obtain rfl:c0=_:=(List.cons.inj (show[c0]=_ from e0)).1
  obtain⟨y1,k1⟩:=hf 1 _ AM.int rfl opens_3
  obtain⟨e1,r1⟩:=k1
  obtain rfl:c1=_:=(List.cons.inj (show[c1]=_ from e1)).1
  exact⟨⟨y0,y1⟩,⟨rfl,⟨r0,r1⟩⟩⟩
theorem opens_38:ER Tryz.prog 38 (AM.sl IX):=Fw (by kernel_rfl) Tryz.underlying38 opens_74 rfl
theorem opens_78:ER Tryz.prog 78 FX:=by
 have hc:Tryz.prog.cellsOf 78=4:=by kernel_rfl
 refine⟨hc,λ{H enc w base spare held fuel cs x} h=>?_⟩
 obtain⟨hl,hf⟩:=DC Tryz.underlying78 h
 rw[hc] at hl
 match cs,hl with
 |[c0,c1,c2,c3],_=>
  obtain⟨y0,k0⟩:=hf 0 _ AM.int rfl opens_3
  obtain⟨e0,r0⟩:=k0
  obtain rfl:c0=_:=(List.cons.inj (show[c0]=_ from e0)).1
  obtain⟨y1,k1⟩:=hf 1 _ AM.int rfl opens_3
  obtain⟨e1,r1⟩:=k1
  obtain rfl:c1=_:=(List.cons.inj (show[c1]=_ from e1)).1
  obtain⟨y2,k2⟩:=hf 2 _ AM.int rfl opens_3
  obtain⟨e2,r2⟩:=k2
  obtain rfl:c2=_:=(List.cons.inj (show[c2]=_ from e2)).1
  obtain⟨y3,k3⟩:=hf 3 _ AM.int rfl opens_3
  obtain⟨e3,r3⟩:=k3
  obtain rfl:c3=_:=(List.cons.inj (show[c3]=_ from e3)).1
  exact⟨⟨y0,y1,y2,y3⟩,⟨rfl,⟨r0,r1,r2,r3⟩⟩⟩
theorem opens_39:ER Tryz.prog 39 (AM.sl FX):=Fw (by kernel_rfl) Tryz.underlying39 opens_78 rfl
theorem opens_103:ER Tryz.prog 103 GM:=by
 have hc:Tryz.prog.cellsOf 103=4:=by kernel_rfl
 refine⟨hc,λ{H enc w base spare held fuel cs x} h=>?_⟩
 obtain⟨hl,hf⟩:=DC Tryz.underlying103 h
 rw[hc] at hl
 match cs,hl with
 |[c0,c1,c2,c3],_=>
  obtain⟨y0,k0⟩:=hf 0 _ AM.int rfl opens_3
  obtain⟨e0,r0⟩:=k0
  obtain rfl:c0=_:=(List.cons.inj (show[c0]=_ from e0)).1
  obtain⟨y1,k1⟩:=hf 1 _ AM.int rfl opens_3
  obtain⟨e1,r1⟩:=k1
  obtain rfl:c1=_:=(List.cons.inj (show[c1]=_ from e1)).1
  obtain⟨y2,k2⟩:=hf 2 _ AM.int rfl opens_3
  obtain⟨e2,r2⟩:=k2
  obtain rfl:c2=_:=(List.cons.inj (show[c2]=_ from e2)).1
  obtain⟨y3,k3⟩:=hf 3 _ AM.int rfl opens_3
  obtain⟨e3,r3⟩:=k3
  obtain rfl:c3=_:=(List.cons.inj (show[c3]=_ from e3)).1
  exact⟨⟨y0,y1,y2,y3⟩,⟨rfl,⟨r0,r1,r2,r3⟩⟩⟩
theorem opens_40:ER Tryz.prog 40 (AM.sl GM):=Fw (by kernel_rfl) Tryz.underlying40 opens_103 rfl
theorem opens_42:ER Tryz.prog 42 Fg:=by
 have hc:Tryz.prog.cellsOf 42=5:=by kernel_rfl
 refine⟨hc,λ{H enc w base spare held fuel cs x} h=>?_⟩
 obtain⟨hl,hf⟩:=DC Tryz.underlying42 h
 rw[hc] at hl
 match cs,hl with
 |[c0,c1,c2,c3,c4],_=>
  obtain⟨y0,k0⟩:=hf 0 _ (AM.sl AM.int) rfl opens_29
  obtain⟨w0,e0,r0⟩:=k0
  obtain rfl:c0=_:=(List.cons.inj (show[c0]=_ from e0)).1
  obtain⟨y1,k1⟩:=hf 1 _ (AM.sl FL) rfl opens_37
  obtain⟨w1,e1,r1⟩:=k1
  obtain rfl:c1=_:=(List.cons.inj (show[c1]=_ from e1)).1
  obtain⟨y2,k2⟩:=hf 2 _ (AM.sl IX) rfl opens_38
  obtain⟨w2,e2,r2⟩:=k2
  obtain rfl:c2=_:=(List.cons.inj (show[c2]=_ from e2)).1
  obtain⟨y3,k3⟩:=hf 3 _ (AM.sl FX) rfl opens_39
  obtain⟨w3,e3,r3⟩:=k3
  obtain rfl:c3=_:=(List.cons.inj (show[c3]=_ from e3)).1
  obtain⟨y4,k4⟩:=hf 4 _ (AM.sl GM) rfl opens_40
  obtain⟨w4,e4,r4⟩:=k4
  obtain rfl:c4=_:=(List.cons.inj (show[c4]=_ from e4)).1
  exact⟨⟨y0,y1,y2,y3,y4⟩,⟨c0,c1,c2,c3,c4,rfl,r0,r1,r2,r3,r4⟩⟩
set_option maxRecDepth 100000 in
theorem scons_holds_lifted (os:Os) (started:os.Started) (H:Type) (enc:TypeId×Value→H):
  ReturnsInHanded {} Tryz.checked os 3 .any (Rows.stepConservesSpec.pre6 enc Tryz.prog Tryz.f3 Rows.stepConservesRow.domain false) (Rows.stepConservesSpec.post enc Tryz.prog Tryz.f3 false true false false):=by
 refine returnsInHanded_of_change (C:=Tryz.checked) (by kernel_rfl) started (by kernel_rfl) Tryz.func3
  (ChangeSpec.witness6 (enc:=enc) (C:=Tryz.checked) false ⟨#[],#[.agg #[.string ByteArray.empty,.slice none 0 0,.int .i64 0,.slice none 0 0,.slice none 0 0,.slice none 0 0,.slice none 0 0,.slice none 0 0,.slice none 0 0,.slice none 0 0,.int .i64 0],.agg #[.int .i64 0,.slice none 0 0,.slice none 0 0,.slice none 0 0,.slice none 0 0,.slice none 0 0,.slice none 0 0],.agg #[.slice none 0 0,.slice none 0 0,.slice none 0 0,.slice none 0 0,.slice none 0 0]],[]⟩ 8 (by kernel_rfl) (by kernel_rfl) (by kernel_rfl) (by kernel_rfl)) ?_
 intro W base args ds gs before hval0 hW hcnd _
 have hval:∀(j:Nat) t v,Tryz.f3.params[j]? =some t→args[j]? =some v→Value.okWide Tryz.prog W .any base t v:=hval0
 have hW':=hW
 obtain⟨p,q,hA0,hV,rfl,hfz,hnd⟩:=hW
 have hA:DataW.TrodAll enc Tryz.prog W 0 (λ_=>true) true Tryz.f3.params.toList args.toList ds p:=hA0
 rw[Tryz.params3] at hA hval
 obtain⟨v0,vs0,d0,ds0,p0,q0,ha0,rfl,rfl,h0,r0⟩:=trodAll_cons hA
 obtain⟨v1,vs1,d1,ds1,p1,q1,rfl,rfl,rfl,h1,r1⟩:=trodAll_cons r0
 obtain⟨v2,vs2,d2,ds2,p2,q2,rfl,rfl,rfl,h2,r2⟩:=trodAll_cons r1
 obtain⟨rfl,rfl,rfl⟩:=trodAll_nil r2
 obtain rfl:args= #[v0,v1,v2]:=by cases args;simp_all
 obtain⟨rfl,rfl⟩:=trodVars_none hV
 obtain⟨x0,k0⟩:=Tq opens_31 rfl Tryz.underlying31 (hval 0 31 v0 rfl rfl) h0
 obtain⟨x1,k1⟩:=Tq opens_36 rfl Tryz.underlying36 (hval 1 36 v1 rfl rfl) h1
 obtain⟨x2,k2⟩:=Tq opens_42 rfl Tryz.underlying42 (hval 2 42 v2 rfl rfl) h2
 refine(VQ (scons_ret (St.all W.heap) k0 k1 k2)).mono λe W' ⟨he,hb⟩=>⟨_,he,?_⟩
 exact Wc (tb:=4) (by kernel_rfl) (by kernel_rfl) hW' (by kernel_rfl) Tryz.underlying4 rfl rfl rfl rfl hb
theorem scons_holds:Rows.StepConservesSaid:=
 OpenClaim.holds_of_wide 3 Tryz.f3 rfl rfl rfl rfl rfl rfl rfl ⟨rfl,rfl,rfl,rfl,rfl⟩ rfl rfl rfl rfl rfl (by kernel_rfl) Tryz.func3 (by kernel_rfl)
  (of_decide_eq_true (by kernel_rfl)) (by unfold Func.isWrapper;first|(rw [if_pos (by decide +kernel)];kernel_rfl)|(rw [if_neg (by decide +kernel)];exact⟨rfl,rfl⟩))
  (λos started H enc _=>scons_holds_lifted os started H enc)
end scons
end Go.Proofs.YtblcgjadhemlbaaGreat
