/- The law AlarmMore holds, in its second form: for all right basins, hulls, forecasts and inputs, a crest is seen no later with a further forecast or more hours ahead. Condition: the statement's own bound on the bulk of what is handed over. -/
import Derived.Test.YtibidnaedddfdaaGreatCWalk12
import Derived.Test.YtibidnaedddfdaaGreatCPureMore
import Derived.Test.YtibidnaedddfdaaGreatCCore9
import Derived.Test.YtibidnaedddfdaaGreatCCore24
namespace Go.Proofs.YtibidnaedddfdaaGreat
open Go.ChangeShapes Go.WideShapes Go.ChangeAt Go.RowKit
set_option linter.unusedVariables false
set_option linter.unusedSimpArgs false
namespace amore
theorem rdx {α}{S:Nat→Prop}{h:AX}{r:AV α}{v:Value}{l:List α}(k:Sl S h r v l) {x:α}(hx:x∈l):∃cs,r.rd S h cs x:=by
 obtain⟨i,hi⟩:=List.mem_iff_getElem?.1 hx
 obtain⟨_,_,_,cs,_,h2⟩:=k.at_ hi
 exact⟨cs,h2⟩
theorem ins_in {S:Nat→Prop}{h:AX}{v:Value}{l:List BJ}(k:Sl S h Dt v l):∀x∈l,∀t∈x.Takes,AB t.Litres:=λx hx t ht=>by
 obtain⟨cs,h0⟩:=rdx k hx
 have k:Rd S h Dt (.agg cs.toArray) x:=by first|exact⟨_,rfl,h0⟩|exact⟨cs,rfl,h0⟩
 obtain⟨_,_,_,v3,_,_,_,_,_,k3,_⟩:=Dt.ex k
 obtain⟨cs,h2⟩:=rdx k3 ht
 exact h2.2.2.2.1
theorem amore_ret {S:Nat→Prop}{L:List HP}{h:AX}(hs:St S L h) {v0:Value}{x0:AJ}(k0:Rd S h BV v0 x0) (x1:Int) (k1:AB x1) {v2:Value}{x2:BT}(k2:Rd S h DI v2 x2) {v3:Value}{x3:(List Be)}(k3:Sl S h El v3 x3) {v4:Value}{x4:(List BJ)}(k4:Sl S h Dt v4 x4) (x5:Int) (k5:AB x5) (l0:x0.Places.length≤1048576) (l2:x2.Queue.length≤1048576) (l3:x3.length≤1048576):Bf Tryz.prog 4 #[v0,.int .i64 x1,v2,v3,v4,.int .i64 x5] S h (λv S' h'=>v= .bool true∧St S' L h'):=
 Ij hs k0 k1 k2 k3 k4 k5 (Qq _ _ _ _ _ _ l0 l3 l2 (ins_in k4))
theorem opens_9:DA Tryz.prog 9 AV.str:=SQ (by kernel_rfl) Tryz.underlying9
theorem opens_22:DA Tryz.prog 22 (AV.sl AV.str):=Dv (by kernel_rfl) Tryz.underlying22 opens_9 rfl
theorem opens_3:DA Tryz.prog 3 AV.int:=SR (by kernel_rfl) Tryz.underlying3
theorem opens_90:DA Tryz.prog 90 BB:=by
 have hc:Tryz.prog.cellsOf 90=2:=by kernel_rfl
 refine⟨hc,λ{H enc w base spare held fuel cs x} h=>?_⟩
 obtain⟨hl,hf⟩:=CB Tryz.underlying90 h
 rw[hc] at hl
 match cs,hl with
 |[c0,c1],_=>
  obtain⟨y0,k0⟩:=hf 0 _ AV.int rfl opens_3
  obtain⟨e0,r0⟩:=k0
  obtain rfl:c0=_:=(List.cons.inj (show[c0]=_ from e0)).1
  obtain⟨y1,k1⟩:=hf 1 _ AV.int rfl opens_3
  obtain⟨e1,r1⟩:=k1
  obtain rfl:c1=_:=(List.cons.inj (show[c1]=_ from e1)).1
  exact⟨⟨y0,y1⟩,⟨rfl,⟨r0,r1⟩⟩⟩
theorem opens_54:DA Tryz.prog 54 (AV.sl BB):=Dv (by kernel_rfl) Tryz.underlying54 opens_90 rfl
theorem opens_29:DA Tryz.prog 29 (AV.sl AV.int):=Dv (by kernel_rfl) Tryz.underlying29 opens_3 rfl
theorem opens_164:DA Tryz.prog 164 H2:=by
 have hc:Tryz.prog.cellsOf 164=2:=by kernel_rfl
 refine⟨hc,λ{H enc w base spare held fuel cs x} h=>?_⟩
 obtain⟨hl,hf⟩:=CB Tryz.underlying164 h
 rw[hc] at hl
 match cs,hl with
 |[c0,c1],_=>
  obtain⟨y0,k0⟩:=hf 0 _ AV.int rfl opens_3
  obtain⟨e0,r0⟩:=k0
  obtain rfl:c0=_:=(List.cons.inj (show[c0]=_ from e0)).1
  obtain⟨y1,k1⟩:=hf 1 _ AV.int rfl opens_3
  obtain⟨e1,r1⟩:=k1
  obtain rfl:c1=_:=(List.cons.inj (show[c1]=_ from e1)).1
  exact⟨⟨y0,y1⟩,⟨rfl,⟨r0,r1⟩⟩⟩
theorem opens_55:DA Tryz.prog 55 (AV.sl H2):=Dv (by kernel_rfl) Tryz.underlying55 opens_164 rfl
theorem opens_57:DA Tryz.prog 57 BO:=by
 have hc:Tryz.prog.cellsOf 57=12:=by kernel_rfl
 refine⟨hc,λ{H enc w base spare held fuel cs x} h=>?_⟩
 obtain⟨hl,hf⟩:=CB Tryz.underlying57 h
 rw[hc] at hl
 match cs,hl with
 |[c0,c1,c2,c3,c4,c5,c6,c7,c8,c9,c10,c11],_=>
  obtain⟨y0,k0⟩:=hf 0 _ AV.str rfl opens_9
  obtain⟨e0,r0⟩:=k0
  obtain rfl:c0=_:=(List.cons.inj (show[c0]=_ from e0)).1
  obtain⟨y1,k1⟩:=hf 1 _ AV.int rfl opens_3
  obtain⟨e1,r1⟩:=k1
  obtain rfl:c1=_:=(List.cons.inj (show[c1]=_ from e1)).1
  obtain⟨y2,k2⟩:=hf 2 _ AV.int rfl opens_3
  obtain⟨e2,r2⟩:=k2
  obtain rfl:c2=_:=(List.cons.inj (show[c2]=_ from e2)).1
  obtain⟨y3,k3⟩:=hf 3 _ AV.int rfl opens_3
  obtain⟨e3,r3⟩:=k3
  obtain rfl:c3=_:=(List.cons.inj (show[c3]=_ from e3)).1
  obtain⟨y4,k4⟩:=hf 4 _ (AV.sl BB) rfl opens_54
  obtain⟨w4,e4,r4⟩:=k4
  obtain rfl:c4=_:=(List.cons.inj (show[c4]=_ from e4)).1
  obtain⟨y5,k5⟩:=hf 5 _ (AV.sl AV.int) rfl opens_29
  obtain⟨w5,e5,r5⟩:=k5
  obtain rfl:c5=_:=(List.cons.inj (show[c5]=_ from e5)).1
  obtain⟨y6,k6⟩:=hf 6 _ AV.int rfl opens_3
  obtain⟨e6,r6⟩:=k6
  obtain rfl:c6=_:=(List.cons.inj (show[c6]=_ from e6)).1
  obtain⟨y7,k7⟩:=hf 7 _ AV.int rfl opens_3
  obtain⟨e7,r7⟩:=k7
  obtain rfl:c7=_:=(List.cons.inj (show[c7]=_ from e7)).1
  obtain⟨y8,k8⟩:=hf 8 _ AV.int rfl opens_3
  obtain⟨e8,r8⟩:=k8
  obtain rfl:c8=_:=(List.cons.inj (show[c8]=_ from e8)).1
  obtain⟨y9,k9⟩:=hf 9 _ AV.int rfl opens_3
  obtain⟨e9,r9⟩:=k9
  obtain rfl:c9=_:=(List.cons.inj (show[c9]=_ from e9)).1
  obtain⟨y10,k10⟩:=hf 10 _ AV.int rfl opens_3
  obtain⟨e10,r10⟩:=k10
  obtain rfl:c10=_:=(List.cons.inj (show[c10]=_ from e10)).1
  obtain⟨y11,k11⟩:=hf 11 _ (AV.sl H2) rfl opens_55
  obtain⟨w11,e11,r11⟩:=k11
  obtain rfl:c11=_:=(List.cons.inj (show[c11]=_ from e11)).1
  exact⟨⟨y0,y1,y2,y3,y4,y5,y6,y7,y8,y9,y10,y11⟩,⟨c4,c5,c11,rfl,r0,r1,r2,r3,r4,r5,r6,r7,r8,r9,r10,r11⟩⟩
theorem opens_23:DA Tryz.prog 23 (AV.sl BO):=Dv (by kernel_rfl) Tryz.underlying23 opens_57 rfl
theorem opens_100:DA Tryz.prog 100 JW:=by
 have hc:Tryz.prog.cellsOf 100=2:=by kernel_rfl
 refine⟨hc,λ{H enc w base spare held fuel cs x} h=>?_⟩
 obtain⟨hl,hf⟩:=CB Tryz.underlying100 h
 rw[hc] at hl
 match cs,hl with
 |[c0,c1],_=>
  obtain⟨y0,k0⟩:=hf 0 _ (AV.sl BB) rfl opens_54
  obtain⟨w0,e0,r0⟩:=k0
  obtain rfl:c0=_:=(List.cons.inj (show[c0]=_ from e0)).1
  obtain⟨y1,k1⟩:=hf 1 _ (AV.sl BB) rfl opens_54
  obtain⟨w1,e1,r1⟩:=k1
  obtain rfl:c1=_:=(List.cons.inj (show[c1]=_ from e1)).1
  exact⟨⟨y0,y1⟩,⟨c0,c1,rfl,r0,r1⟩⟩
theorem opens_102:DA Tryz.prog 102 A9:=by
 have hc:Tryz.prog.cellsOf 102=18:=by kernel_rfl
 refine⟨hc,λ{H enc w base spare held fuel cs x} h=>?_⟩
 obtain⟨hl,hf⟩:=CB Tryz.underlying102 h
 rw[hc] at hl
 match cs,hl with
 |[c0,c1,c2,c3,c4,c5,c6,c7,c8,c9,c10,c11,c12,c13,c14,c15,c16,c17],_=>
  obtain⟨y0,k0⟩:=hf 0 _ AV.str rfl opens_9
  obtain⟨e0,r0⟩:=k0
  obtain rfl:c0=_:=(List.cons.inj (show[c0]=_ from e0)).1
  obtain⟨y1,k1⟩:=hf 1 _ AV.int rfl opens_3
  obtain⟨e1,r1⟩:=k1
  obtain rfl:c1=_:=(List.cons.inj (show[c1]=_ from e1)).1
  obtain⟨y2,k2⟩:=hf 2 _ AV.int rfl opens_3
  obtain⟨e2,r2⟩:=k2
  obtain rfl:c2=_:=(List.cons.inj (show[c2]=_ from e2)).1
  obtain⟨y3,k3⟩:=hf 3 _ AV.int rfl opens_3
  obtain⟨e3,r3⟩:=k3
  obtain rfl:c3=_:=(List.cons.inj (show[c3]=_ from e3)).1
  obtain⟨y4,k4⟩:=hf 4 _ (AV.sl BB) rfl opens_54
  obtain⟨w4,e4,r4⟩:=k4
  obtain rfl:c4=_:=(List.cons.inj (show[c4]=_ from e4)).1
  obtain⟨y5,k5⟩:=hf 5 _ JW rfl opens_100
  obtain⟨w5_0,w5_1,e5,r5_0,r5_1⟩:=k5
  obtain⟨rfl,rfl⟩:c5=_∧c6=_:=by simpa using (show[c5,c6]=_ from e5)
  obtain⟨y6,k6⟩:=hf 6 _ AV.int rfl opens_3
  obtain⟨e6,r6⟩:=k6
  obtain rfl:c7=_:=(List.cons.inj (show[c7]=_ from e6)).1
  obtain⟨y7,k7⟩:=hf 7 _ AV.int rfl opens_3
  obtain⟨e7,r7⟩:=k7
  obtain rfl:c8=_:=(List.cons.inj (show[c8]=_ from e7)).1
  obtain⟨y8,k8⟩:=hf 8 _ AV.int rfl opens_3
  obtain⟨e8,r8⟩:=k8
  obtain rfl:c9=_:=(List.cons.inj (show[c9]=_ from e8)).1
  obtain⟨y9,k9⟩:=hf 9 _ AV.int rfl opens_3
  obtain⟨e9,r9⟩:=k9
  obtain rfl:c10=_:=(List.cons.inj (show[c10]=_ from e9)).1
  obtain⟨y10,k10⟩:=hf 10 _ AV.int rfl opens_3
  obtain⟨e10,r10⟩:=k10
  obtain rfl:c11=_:=(List.cons.inj (show[c11]=_ from e10)).1
  obtain⟨y11,k11⟩:=hf 11 _ AV.int rfl opens_3
  obtain⟨e11,r11⟩:=k11
  obtain rfl:c12=_:=(List.cons.inj (show[c12]=_ from e11)).1
  obtain⟨y12,k12⟩:=hf 12 _ AV.int rfl opens_3
  obtain⟨e12,r12⟩:=k12
  obtain rfl:c13=_:=(List.cons.inj (show[c13]=_ from e12)).1
  obtain⟨y13,k13⟩:=hf 13 _ AV.int rfl opens_3
  obtain⟨e13,r13⟩:=k13
  obtain rfl:c14=_:=(List.cons.inj (show[c14]=_ from e13)).1
  obtain⟨y14,k14⟩:=hf 14 _ AV.int rfl opens_3
  obtain⟨e14,r14⟩:=k14
  obtain rfl:c15=_:=(List.cons.inj (show[c15]=_ from e14)).1
  obtain⟨y15,k15⟩:=hf 15 _ AV.int rfl opens_3
  obtain⟨e15,r15⟩:=k15
  obtain rfl:c16=_:=(List.cons.inj (show[c16]=_ from e15)).1
  obtain⟨y16,k16⟩:=hf 16 _ AV.int rfl opens_3
  obtain⟨e16,r16⟩:=k16
  obtain rfl:c17=_:=(List.cons.inj (show[c17]=_ from e16)).1
  exact⟨⟨y0,y1,y2,y3,y4,y5,y6,y7,y8,y9,y10,y11,y12,y13,y14,y15,y16⟩,⟨c4,c5,c6,rfl,r0,r1,r2,r3,r4,r5_0,r5_1,r6,r7,r8,r9,r10,r11,r12,r13,r14,r15,r16⟩⟩
theorem opens_24:DA Tryz.prog 24 (AV.sl A9):=Dv (by kernel_rfl) Tryz.underlying24 opens_102 rfl
theorem opens_114:DA Tryz.prog 114 EK:=by
 have hc:Tryz.prog.cellsOf 114=7:=by kernel_rfl
 refine⟨hc,λ{H enc w base spare held fuel cs x} h=>?_⟩
 obtain⟨hl,hf⟩:=CB Tryz.underlying114 h
 rw[hc] at hl
 match cs,hl with
 |[c0,c1,c2,c3,c4,c5,c6],_=>
  obtain⟨y0,k0⟩:=hf 0 _ AV.str rfl opens_9
  obtain⟨e0,r0⟩:=k0
  obtain rfl:c0=_:=(List.cons.inj (show[c0]=_ from e0)).1
  obtain⟨y1,k1⟩:=hf 1 _ AV.int rfl opens_3
  obtain⟨e1,r1⟩:=k1
  obtain rfl:c1=_:=(List.cons.inj (show[c1]=_ from e1)).1
  obtain⟨y2,k2⟩:=hf 2 _ AV.int rfl opens_3
  obtain⟨e2,r2⟩:=k2
  obtain rfl:c2=_:=(List.cons.inj (show[c2]=_ from e2)).1
  obtain⟨y3,k3⟩:=hf 3 _ AV.int rfl opens_3
  obtain⟨e3,r3⟩:=k3
  obtain rfl:c3=_:=(List.cons.inj (show[c3]=_ from e3)).1
  obtain⟨y4,k4⟩:=hf 4 _ AV.int rfl opens_3
  obtain⟨e4,r4⟩:=k4
  obtain rfl:c4=_:=(List.cons.inj (show[c4]=_ from e4)).1
  obtain⟨y5,k5⟩:=hf 5 _ AV.int rfl opens_3
  obtain⟨e5,r5⟩:=k5
  obtain rfl:c5=_:=(List.cons.inj (show[c5]=_ from e5)).1
  obtain⟨y6,k6⟩:=hf 6 _ AV.int rfl opens_3
  obtain⟨e6,r6⟩:=k6
  obtain rfl:c6=_:=(List.cons.inj (show[c6]=_ from e6)).1
  exact⟨⟨y0,y1,y2,y3,y4,y5,y6⟩,⟨rfl,⟨r0,r1,r2,r3,r4,r5,r6⟩⟩⟩
theorem opens_25:DA Tryz.prog 25 (AV.sl EK):=Dv (by kernel_rfl) Tryz.underlying25 opens_114 rfl
theorem opens_147:DA Tryz.prog 147 Di:=by
 have hc:Tryz.prog.cellsOf 147=5:=by kernel_rfl
 refine⟨hc,λ{H enc w base spare held fuel cs x} h=>?_⟩
 obtain⟨hl,hf⟩:=CB Tryz.underlying147 h
 rw[hc] at hl
 match cs,hl with
 |[c0,c1,c2,c3,c4],_=>
  obtain⟨y0,k0⟩:=hf 0 _ AV.str rfl opens_9
  obtain⟨e0,r0⟩:=k0
  obtain rfl:c0=_:=(List.cons.inj (show[c0]=_ from e0)).1
  obtain⟨y1,k1⟩:=hf 1 _ AV.int rfl opens_3
  obtain⟨e1,r1⟩:=k1
  obtain rfl:c1=_:=(List.cons.inj (show[c1]=_ from e1)).1
  obtain⟨y2,k2⟩:=hf 2 _ AV.int rfl opens_3
  obtain⟨e2,r2⟩:=k2
  obtain rfl:c2=_:=(List.cons.inj (show[c2]=_ from e2)).1
  obtain⟨y3,k3⟩:=hf 3 _ AV.int rfl opens_3
  obtain⟨e3,r3⟩:=k3
  obtain rfl:c3=_:=(List.cons.inj (show[c3]=_ from e3)).1
  obtain⟨y4,k4⟩:=hf 4 _ AV.int rfl opens_3
  obtain⟨e4,r4⟩:=k4
  obtain rfl:c4=_:=(List.cons.inj (show[c4]=_ from e4)).1
  exact⟨⟨y0,y1,y2,y3,y4⟩,⟨rfl,⟨r0,r1,r2,r3,r4⟩⟩⟩
theorem opens_26:DA Tryz.prog 26 (AV.sl Di):=Dv (by kernel_rfl) Tryz.underlying26 opens_147 rfl
theorem opens_160:DA Tryz.prog 160 Et:=by
 have hc:Tryz.prog.cellsOf 160=7:=by kernel_rfl
 refine⟨hc,λ{H enc w base spare held fuel cs x} h=>?_⟩
 obtain⟨hl,hf⟩:=CB Tryz.underlying160 h
 rw[hc] at hl
 match cs,hl with
 |[c0,c1,c2,c3,c4,c5,c6],_=>
  obtain⟨y0,k0⟩:=hf 0 _ AV.str rfl opens_9
  obtain⟨e0,r0⟩:=k0
  obtain rfl:c0=_:=(List.cons.inj (show[c0]=_ from e0)).1
  obtain⟨y1,k1⟩:=hf 1 _ AV.int rfl opens_3
  obtain⟨e1,r1⟩:=k1
  obtain rfl:c1=_:=(List.cons.inj (show[c1]=_ from e1)).1
  obtain⟨y2,k2⟩:=hf 2 _ AV.int rfl opens_3
  obtain⟨e2,r2⟩:=k2
  obtain rfl:c2=_:=(List.cons.inj (show[c2]=_ from e2)).1
  obtain⟨y3,k3⟩:=hf 3 _ AV.int rfl opens_3
  obtain⟨e3,r3⟩:=k3
  obtain rfl:c3=_:=(List.cons.inj (show[c3]=_ from e3)).1
  obtain⟨y4,k4⟩:=hf 4 _ AV.int rfl opens_3
  obtain⟨e4,r4⟩:=k4
  obtain rfl:c4=_:=(List.cons.inj (show[c4]=_ from e4)).1
  obtain⟨y5,k5⟩:=hf 5 _ AV.int rfl opens_3
  obtain⟨e5,r5⟩:=k5
  obtain rfl:c5=_:=(List.cons.inj (show[c5]=_ from e5)).1
  obtain⟨y6,k6⟩:=hf 6 _ AV.int rfl opens_3
  obtain⟨e6,r6⟩:=k6
  obtain rfl:c6=_:=(List.cons.inj (show[c6]=_ from e6)).1
  exact⟨⟨y0,y1,y2,y3,y4,y5,y6⟩,⟨rfl,⟨r0,r1,r2,r3,r4,r5,r6⟩⟩⟩
theorem opens_27:DA Tryz.prog 27 (AV.sl Et):=Dv (by kernel_rfl) Tryz.underlying27 opens_160 rfl
theorem opens_158:DA Tryz.prog 158 Cc:=by
 have hc:Tryz.prog.cellsOf 158=2:=by kernel_rfl
 refine⟨hc,λ{H enc w base spare held fuel cs x} h=>?_⟩
 obtain⟨hl,hf⟩:=CB Tryz.underlying158 h
 rw[hc] at hl
 match cs,hl with
 |[c0,c1],_=>
  obtain⟨y0,k0⟩:=hf 0 _ AV.str rfl opens_9
  obtain⟨e0,r0⟩:=k0
  obtain rfl:c0=_:=(List.cons.inj (show[c0]=_ from e0)).1
  obtain⟨y1,k1⟩:=hf 1 _ AV.int rfl opens_3
  obtain⟨e1,r1⟩:=k1
  obtain rfl:c1=_:=(List.cons.inj (show[c1]=_ from e1)).1
  exact⟨⟨y0,y1⟩,⟨rfl,⟨r0,r1⟩⟩⟩
theorem opens_28:DA Tryz.prog 28 (AV.sl Cc):=Dv (by kernel_rfl) Tryz.underlying28 opens_158 rfl
theorem opens_31:DA Tryz.prog 31 BV:=by
 have hc:Tryz.prog.cellsOf 31=11:=by kernel_rfl
 refine⟨hc,λ{H enc w base spare held fuel cs x} h=>?_⟩
 obtain⟨hl,hf⟩:=CB Tryz.underlying31 h
 rw[hc] at hl
 match cs,hl with
 |[c0,c1,c2,c3,c4,c5,c6,c7,c8,c9,c10],_=>
  obtain⟨y0,k0⟩:=hf 0 _ AV.str rfl opens_9
  obtain⟨e0,r0⟩:=k0
  obtain rfl:c0=_:=(List.cons.inj (show[c0]=_ from e0)).1
  obtain⟨y1,k1⟩:=hf 1 _ (AV.sl AV.str) rfl opens_22
  obtain⟨w1,e1,r1⟩:=k1
  obtain rfl:c1=_:=(List.cons.inj (show[c1]=_ from e1)).1
  obtain⟨y2,k2⟩:=hf 2 _ AV.int rfl opens_3
  obtain⟨e2,r2⟩:=k2
  obtain rfl:c2=_:=(List.cons.inj (show[c2]=_ from e2)).1
  obtain⟨y3,k3⟩:=hf 3 _ (AV.sl BO) rfl opens_23
  obtain⟨w3,e3,r3⟩:=k3
  obtain rfl:c3=_:=(List.cons.inj (show[c3]=_ from e3)).1
  obtain⟨y4,k4⟩:=hf 4 _ (AV.sl A9) rfl opens_24
  obtain⟨w4,e4,r4⟩:=k4
  obtain rfl:c4=_:=(List.cons.inj (show[c4]=_ from e4)).1
  obtain⟨y5,k5⟩:=hf 5 _ (AV.sl EK) rfl opens_25
  obtain⟨w5,e5,r5⟩:=k5
  obtain rfl:c5=_:=(List.cons.inj (show[c5]=_ from e5)).1
  obtain⟨y6,k6⟩:=hf 6 _ (AV.sl Di) rfl opens_26
  obtain⟨w6,e6,r6⟩:=k6
  obtain rfl:c6=_:=(List.cons.inj (show[c6]=_ from e6)).1
  obtain⟨y7,k7⟩:=hf 7 _ (AV.sl Et) rfl opens_27
  obtain⟨w7,e7,r7⟩:=k7
  obtain rfl:c7=_:=(List.cons.inj (show[c7]=_ from e7)).1
  obtain⟨y8,k8⟩:=hf 8 _ (AV.sl Cc) rfl opens_28
  obtain⟨w8,e8,r8⟩:=k8
  obtain rfl:c8=_:=(List.cons.inj (show[c8]=_ from e8)).1
  obtain⟨y9,k9⟩:=hf 9 _ (AV.sl AV.int) rfl opens_29
  obtain⟨w9,e9,r9⟩:=k9
  obtain rfl:c9=_:=(List.cons.inj (show[c9]=_ from e9)).1
  obtain⟨y10,k10⟩:=hf 10 _ AV.int rfl opens_3
  obtain⟨e10,r10⟩:=k10
  obtain rfl:c10=_:=(List.cons.inj (show[c10]=_ from e10)).1
  exact⟨⟨y0,y1,y2,y3,y4,y5,y6,y7,y8,y9,y10⟩,⟨c1,c3,c4,c5,c6,c7,c8,c9,rfl,r0,r1,r2,r3,r4,r5,r6,r7,r8,r9,r10⟩⟩
theorem opens_51:DA Tryz.prog 51 AF:=by
 have hc:Tryz.prog.cellsOf 51=2:=by kernel_rfl
 refine⟨hc,λ{H enc w base spare held fuel cs x} h=>?_⟩
 obtain⟨hl,hf⟩:=CB Tryz.underlying51 h
 rw[hc] at hl
 match cs,hl with
 |[c0,c1],_=>
  obtain⟨y0,k0⟩:=hf 0 _ AV.int rfl opens_3
  obtain⟨e0,r0⟩:=k0
  obtain rfl:c0=_:=(List.cons.inj (show[c0]=_ from e0)).1
  obtain⟨y1,k1⟩:=hf 1 _ AV.int rfl opens_3
  obtain⟨e1,r1⟩:=k1
  obtain rfl:c1=_:=(List.cons.inj (show[c1]=_ from e1)).1
  exact⟨⟨y0,y1⟩,⟨rfl,⟨r0,r1⟩⟩⟩
theorem opens_32:DA Tryz.prog 32 (AV.sl AF):=Dv (by kernel_rfl) Tryz.underlying32 opens_51 rfl
theorem opens_93:DA Tryz.prog 93 BS:=by
 have hc:Tryz.prog.cellsOf 93=4:=by kernel_rfl
 refine⟨hc,λ{H enc w base spare held fuel cs x} h=>?_⟩
 obtain⟨hl,hf⟩:=CB Tryz.underlying93 h
 rw[hc] at hl
 match cs,hl with
 |[c0,c1,c2,c3],_=>
  obtain⟨y0,k0⟩:=hf 0 _ AV.int rfl opens_3
  obtain⟨e0,r0⟩:=k0
  obtain rfl:c0=_:=(List.cons.inj (show[c0]=_ from e0)).1
  obtain⟨y1,k1⟩:=hf 1 _ AV.int rfl opens_3
  obtain⟨e1,r1⟩:=k1
  obtain rfl:c1=_:=(List.cons.inj (show[c1]=_ from e1)).1
  obtain⟨y2,k2⟩:=hf 2 _ AF rfl opens_51
  obtain⟨e2,⟨r2_0,r2_1⟩⟩:=k2
  obtain⟨rfl,rfl⟩:c2=_∧c3=_:=by simpa using (show[c2,c3]=_ from e2)
  exact⟨⟨y0,y1,y2⟩,⟨rfl,⟨r0,r1,r2_0,r2_1⟩⟩⟩
theorem opens_33:DA Tryz.prog 33 (AV.sl BS):=Dv (by kernel_rfl) Tryz.underlying33 opens_93 rfl
theorem opens_97:DA Tryz.prog 97 AZ:=by
 have hc:Tryz.prog.cellsOf 97=5:=by kernel_rfl
 refine⟨hc,λ{H enc w base spare held fuel cs x} h=>?_⟩
 obtain⟨hl,hf⟩:=CB Tryz.underlying97 h
 rw[hc] at hl
 match cs,hl with
 |[c0,c1,c2,c3,c4],_=>
  obtain⟨y0,k0⟩:=hf 0 _ AF rfl opens_51
  obtain⟨e0,⟨r0_0,r0_1⟩⟩:=k0
  obtain⟨rfl,rfl⟩:c0=_∧c1=_:=by simpa using (show[c0,c1]=_ from e0)
  obtain⟨y1,k1⟩:=hf 1 _ AV.int rfl opens_3
  obtain⟨e1,r1⟩:=k1
  obtain rfl:c2=_:=(List.cons.inj (show[c2]=_ from e1)).1
  obtain⟨y2,k2⟩:=hf 2 _ AF rfl opens_51
  obtain⟨e2,⟨r2_0,r2_1⟩⟩:=k2
  obtain⟨rfl,rfl⟩:c3=_∧c4=_:=by simpa using (show[c3,c4]=_ from e2)
  exact⟨⟨y0,y1,y2⟩,⟨rfl,⟨r0_0,r0_1,r1,r2_0,r2_1⟩⟩⟩
theorem opens_34:DA Tryz.prog 34 (AV.sl AZ):=Dv (by kernel_rfl) Tryz.underlying34 opens_97 rfl
theorem opens_36:DA Tryz.prog 36 DI:=by
 have hc:Tryz.prog.cellsOf 36=4:=by kernel_rfl
 refine⟨hc,λ{H enc w base spare held fuel cs x} h=>?_⟩
 obtain⟨hl,hf⟩:=CB Tryz.underlying36 h
 rw[hc] at hl
 match cs,hl with
 |[c0,c1,c2,c3],_=>
  obtain⟨y0,k0⟩:=hf 0 _ AV.int rfl opens_3
  obtain⟨e0,r0⟩:=k0
  obtain rfl:c0=_:=(List.cons.inj (show[c0]=_ from e0)).1
  obtain⟨y1,k1⟩:=hf 1 _ (AV.sl AF) rfl opens_32
  obtain⟨w1,e1,r1⟩:=k1
  obtain rfl:c1=_:=(List.cons.inj (show[c1]=_ from e1)).1
  obtain⟨y2,k2⟩:=hf 2 _ (AV.sl BS) rfl opens_33
  obtain⟨w2,e2,r2⟩:=k2
  obtain rfl:c2=_:=(List.cons.inj (show[c2]=_ from e2)).1
  obtain⟨y3,k3⟩:=hf 3 _ (AV.sl AZ) rfl opens_34
  obtain⟨w3,e3,r3⟩:=k3
  obtain rfl:c3=_:=(List.cons.inj (show[c3]=_ from e3)).1
  exact⟨⟨y0,y1,y2,y3⟩,⟨c1,c2,c3,rfl,r0,r1,r2,r3⟩⟩
theorem opens_121:DA Tryz.prog 121 (AV.sl (AV.sl AF)):=Dv (by kernel_rfl) Tryz.underlying121 opens_32 rfl
theorem opens_123:DA Tryz.prog 123 El:=by
 have hc:Tryz.prog.cellsOf 123=3:=by kernel_rfl
 refine⟨hc,λ{H enc w base spare held fuel cs x} h=>?_⟩
 obtain⟨hl,hf⟩:=CB Tryz.underlying123 h
 rw[hc] at hl
 match cs,hl with
 |[c0,c1,c2],_=>
  obtain⟨y0,k0⟩:=hf 0 _ AV.int rfl opens_3
  obtain⟨e0,r0⟩:=k0
  obtain rfl:c0=_:=(List.cons.inj (show[c0]=_ from e0)).1
  obtain⟨y1,k1⟩:=hf 1 _ AV.int rfl opens_3
  obtain⟨e1,r1⟩:=k1
  obtain rfl:c1=_:=(List.cons.inj (show[c1]=_ from e1)).1
  obtain⟨y2,k2⟩:=hf 2 _ (AV.sl (AV.sl AF)) rfl opens_121
  obtain⟨w2,e2,r2⟩:=k2
  obtain rfl:c2=_:=(List.cons.inj (show[c2]=_ from e2)).1
  exact⟨⟨y0,y1,y2⟩,⟨c2,rfl,r0,r1,r2⟩⟩
theorem opens_59:DA Tryz.prog 59 (AV.sl El):=Dv (by kernel_rfl) Tryz.underlying59 opens_123 rfl
theorem opens_171:DA Tryz.prog 171 GQ:=by
 have hc:Tryz.prog.cellsOf 171=2:=by kernel_rfl
 refine⟨hc,λ{H enc w base spare held fuel cs x} h=>?_⟩
 obtain⟨hl,hf⟩:=CB Tryz.underlying171 h
 rw[hc] at hl
 match cs,hl with
 |[c0,c1],_=>
  obtain⟨y0,k0⟩:=hf 0 _ AV.int rfl opens_3
  obtain⟨e0,r0⟩:=k0
  obtain rfl:c0=_:=(List.cons.inj (show[c0]=_ from e0)).1
  obtain⟨y1,k1⟩:=hf 1 _ AV.int rfl opens_3
  obtain⟨e1,r1⟩:=k1
  obtain rfl:c1=_:=(List.cons.inj (show[c1]=_ from e1)).1
  exact⟨⟨y0,y1⟩,⟨rfl,⟨r0,r1⟩⟩⟩
theorem opens_37:DA Tryz.prog 37 (AV.sl GQ):=Dv (by kernel_rfl) Tryz.underlying37 opens_171 rfl
theorem opens_173:DA Tryz.prog 173 Ia:=by
 have hc:Tryz.prog.cellsOf 173=2:=by kernel_rfl
 refine⟨hc,λ{H enc w base spare held fuel cs x} h=>?_⟩
 obtain⟨hl,hf⟩:=CB Tryz.underlying173 h
 rw[hc] at hl
 match cs,hl with
 |[c0,c1],_=>
  obtain⟨y0,k0⟩:=hf 0 _ AV.int rfl opens_3
  obtain⟨e0,r0⟩:=k0
  obtain rfl:c0=_:=(List.cons.inj (show[c0]=_ from e0)).1
  obtain⟨y1,k1⟩:=hf 1 _ AV.int rfl opens_3
  obtain⟨e1,r1⟩:=k1
  obtain rfl:c1=_:=(List.cons.inj (show[c1]=_ from e1)).1
  exact⟨⟨y0,y1⟩,⟨rfl,⟨r0,r1⟩⟩⟩
theorem opens_38:DA Tryz.prog 38 (AV.sl Ia):=Dv (by kernel_rfl) Tryz.underlying38 opens_173 rfl
theorem opens_184:DA Tryz.prog 184 GL:=by
 have hc:Tryz.prog.cellsOf 184=4:=by kernel_rfl
 refine⟨hc,λ{H enc w base spare held fuel cs x} h=>?_⟩
 obtain⟨hl,hf⟩:=CB Tryz.underlying184 h
 rw[hc] at hl
 match cs,hl with
 |[c0,c1,c2,c3],_=>
  obtain⟨y0,k0⟩:=hf 0 _ AV.int rfl opens_3
  obtain⟨e0,r0⟩:=k0
  obtain rfl:c0=_:=(List.cons.inj (show[c0]=_ from e0)).1
  obtain⟨y1,k1⟩:=hf 1 _ AV.int rfl opens_3
  obtain⟨e1,r1⟩:=k1
  obtain rfl:c1=_:=(List.cons.inj (show[c1]=_ from e1)).1
  obtain⟨y2,k2⟩:=hf 2 _ AV.int rfl opens_3
  obtain⟨e2,r2⟩:=k2
  obtain rfl:c2=_:=(List.cons.inj (show[c2]=_ from e2)).1
  obtain⟨y3,k3⟩:=hf 3 _ AV.int rfl opens_3
  obtain⟨e3,r3⟩:=k3
  obtain rfl:c3=_:=(List.cons.inj (show[c3]=_ from e3)).1
  exact⟨⟨y0,y1,y2,y3⟩,⟨rfl,⟨r0,r1,r2,r3⟩⟩⟩
theorem opens_39:DA Tryz.prog 39 (AV.sl GL):=Dv (by kernel_rfl) Tryz.underlying39 opens_184 rfl
theorem opens_260:DA Tryz.prog 260 G4:=by
 have hc:Tryz.prog.cellsOf 260=4:=by kernel_rfl
 refine⟨hc,λ{H enc w base spare held fuel cs x} h=>?_⟩
 obtain⟨hl,hf⟩:=CB Tryz.underlying260 h
 rw[hc] at hl
 match cs,hl with
 |[c0,c1,c2,c3],_=>
  obtain⟨y0,k0⟩:=hf 0 _ AV.int rfl opens_3
  obtain⟨e0,r0⟩:=k0
  obtain rfl:c0=_:=(List.cons.inj (show[c0]=_ from e0)).1
  obtain⟨y1,k1⟩:=hf 1 _ AV.int rfl opens_3
  obtain⟨e1,r1⟩:=k1
  obtain rfl:c1=_:=(List.cons.inj (show[c1]=_ from e1)).1
  obtain⟨y2,k2⟩:=hf 2 _ AV.int rfl opens_3
  obtain⟨e2,r2⟩:=k2
  obtain rfl:c2=_:=(List.cons.inj (show[c2]=_ from e2)).1
  obtain⟨y3,k3⟩:=hf 3 _ AV.int rfl opens_3
  obtain⟨e3,r3⟩:=k3
  obtain rfl:c3=_:=(List.cons.inj (show[c3]=_ from e3)).1
  exact⟨⟨y0,y1,y2,y3⟩,⟨rfl,⟨r0,r1,r2,r3⟩⟩⟩
theorem opens_40:DA Tryz.prog 40 (AV.sl G4):=Dv (by kernel_rfl) Tryz.underlying40 opens_260 rfl
theorem opens_42:DA Tryz.prog 42 Dt:=by
 have hc:Tryz.prog.cellsOf 42=5:=by kernel_rfl
 refine⟨hc,λ{H enc w base spare held fuel cs x} h=>?_⟩
 obtain⟨hl,hf⟩:=CB Tryz.underlying42 h
 rw[hc] at hl
 match cs,hl with
 |[c0,c1,c2,c3,c4],_=>
  obtain⟨y0,k0⟩:=hf 0 _ (AV.sl AV.int) rfl opens_29
  obtain⟨w0,e0,r0⟩:=k0
  obtain rfl:c0=_:=(List.cons.inj (show[c0]=_ from e0)).1
  obtain⟨y1,k1⟩:=hf 1 _ (AV.sl GQ) rfl opens_37
  obtain⟨w1,e1,r1⟩:=k1
  obtain rfl:c1=_:=(List.cons.inj (show[c1]=_ from e1)).1
  obtain⟨y2,k2⟩:=hf 2 _ (AV.sl Ia) rfl opens_38
  obtain⟨w2,e2,r2⟩:=k2
  obtain rfl:c2=_:=(List.cons.inj (show[c2]=_ from e2)).1
  obtain⟨y3,k3⟩:=hf 3 _ (AV.sl GL) rfl opens_39
  obtain⟨w3,e3,r3⟩:=k3
  obtain rfl:c3=_:=(List.cons.inj (show[c3]=_ from e3)).1
  obtain⟨y4,k4⟩:=hf 4 _ (AV.sl G4) rfl opens_40
  obtain⟨w4,e4,r4⟩:=k4
  obtain rfl:c4=_:=(List.cons.inj (show[c4]=_ from e4)).1
  exact⟨⟨y0,y1,y2,y3,y4⟩,⟨c0,c1,c2,c3,c4,rfl,r0,r1,r2,r3,r4⟩⟩
theorem opens_60:DA Tryz.prog 60 (AV.sl Dt):=Dv (by kernel_rfl) Tryz.underlying60 opens_42 rfl
set_option maxRecDepth 100000 in
theorem amore_holds_lifted (os:Os) (started:os.Started) (H:Type) (enc:TypeId×Value→H) (F:Stop.Interp):
  ReturnsInHanded {} Tryz.checked os 4 .any ((Rows.OpenSpec.upto Rows.alarmMoreSpec).pre6 enc Tryz.prog Tryz.f4 Rows.alarmMoreUptoRow.domain false) (((Rows.OpenSpec.upto Rows.alarmMoreSpec).at F).post enc Tryz.prog Tryz.f4 false true false false):=by
 refine returnsInHanded_of_cond (C:=Tryz.checked) (s:=Rows.OpenSpec.upto Rows.alarmMoreSpec) (k:=Rows.uptoSmall) rfl (by kernel_rfl) started (by kernel_rfl) Tryz.func4
  (OpenSpec.witness (enc:=enc) (C:=Tryz.checked) (s:=Rows.OpenSpec.upto Rows.alarmMoreSpec) (k:=Rows.uptoSmall) rfl false ⟨#[],#[.agg #[.string ByteArray.empty,.slice none 0 0,.int .i64 0,.slice none 0 0,.slice none 0 0,.slice none 0 0,.slice none 0 0,.slice none 0 0,.slice none 0 0,.slice none 0 0,.int .i64 0],.int .i64 0,.agg #[.int .i64 0,.slice none 0 0,.slice none 0 0,.slice none 0 0],.slice none 0 0,.slice none 0 0,.int .i64 0],[]⟩ 8 (by kernel_rfl) (by kernel_rfl) (by kernel_rfl) (x:=([.agg [.lit (.string []),.nil,.lit (.int .i64 0),.nil,.nil,.nil,.nil,.nil,.nil,.nil,.lit (.int .i64 0)],.lit (.int .i64 0),.agg [.lit (.int .i64 0),.nil,.nil,.nil],.nil,.nil,.lit (.int .i64 0)],[],[])) (by kernel_rfl) rfl (by kernel_rfl)) ?_
 intro W base args ds gs before hval0 hW hcnd hk _
 have hval:∀(j:Nat) t v,Tryz.f4.params[j]? =some t→args[j]? =some v→Value.okWide Tryz.prog W .any base t v:=hval0
 have hW':=hW
 obtain⟨p,q,hA0,hV,rfl,hfz,hnd⟩:=hW
 have hA:DataW.TrodAll enc Tryz.prog W 0 (λ_=>true) true Tryz.f4.params.toList args.toList ds p:=hA0
 rw[Tryz.params4] at hA hval
 obtain⟨v0,vs0,d0,ds0,p0,q0,ha0,rfl,rfl,h0,r0⟩:=trodAll_cons hA
 obtain⟨v1,vs1,d1,ds1,p1,q1,rfl,rfl,rfl,h1,r1⟩:=trodAll_cons r0
 obtain⟨v2,vs2,d2,ds2,p2,q2,rfl,rfl,rfl,h2,r2⟩:=trodAll_cons r1
 obtain⟨v3,vs3,d3,ds3,p3,q3,rfl,rfl,rfl,h3,r3⟩:=trodAll_cons r2
 obtain⟨v4,vs4,d4,ds4,p4,q4,rfl,rfl,rfl,h4,r4⟩:=trodAll_cons r3
 obtain⟨v5,vs5,d5,ds5,p5,q5,rfl,rfl,rfl,h5,r5⟩:=trodAll_cons r4
 obtain⟨rfl,rfl,rfl⟩:=trodAll_nil r5
 obtain rfl:args= #[v0,v1,v2,v3,v4,v5]:=by cases args;simp_all
 obtain⟨rfl,rfl⟩:=trodVars_none hV
 obtain⟨x0,k0⟩:=Uw opens_31 rfl Tryz.underlying31 (hval 0 31 v0 rfl rfl) h0
 obtain⟨x1,k1⟩:=M9 opens_3 rfl rfl (Tg Tryz.underlying3 (hval 1 3 v1 rfl rfl)) h1
 obtain⟨x2,k2⟩:=Uw opens_36 rfl Tryz.underlying36 (hval 2 36 v2 rfl rfl) h2
 obtain⟨x3,k3⟩:=M9 opens_59 rfl rfl (Po Tryz.underlying59 (hval 3 59 v3 rfl rfl)) h3
 obtain⟨x4,k4⟩:=M9 opens_60 rfl rfl (Po Tryz.underlying60 (hval 4 60 v4 rfl rfl)) h4
 obtain⟨x5,k5⟩:=M9 opens_3 rfl rfl (Tg Tryz.underlying3 (hval 5 3 v5 rfl rfl)) h5
 obtain⟨rfl,ki1⟩:=k1.int
 obtain⟨rfl,ki5⟩:=k5.int
 have hkb:=Q6 hk
 simp only[List.append_nil,Rows.uptoBulkAll] at hkb
 have lb0:x0.Places.length≤Rows.uptoBulk d0:=by
  obtain⟨w0,w1,w2,w3,w4,w5,w6,w7,ev,hex⟩:=BV.ex k0
  subst ev
  exact R8 Tryz.underlying31 h0 (j:=3) rfl Tryz.underlying23 (by kernel_rfl) rfl hex.2.2.2.1
 have lb1:x2.Queue.length≤Rows.uptoBulk d2:=by
  obtain⟨w0,w1,w2,ev,hex⟩:=DI.ex k2
  subst ev
  exact R8 Tryz.underlying36 h2 (j:=2) rfl Tryz.underlying33 (by kernel_rfl) rfl hex.2.2.1
 have lb2:=V1 Tryz.underlying59 h3 k3.sl
 refine(SU (amore_ret (St.all W.heap) k0 x1 ki1 k2 k3.sl k4.sl x5 ki5 (by omega) (by omega) (by omega))).mono λe W' ⟨he,hb⟩=>⟨_,he,?_⟩
 exact Tq (tb:=4) (by kernel_rfl) (by kernel_rfl) hW' (by kernel_rfl) Tryz.underlying4 rfl rfl rfl rfl hb
theorem amore_holds:Rows.AlarmMoreUptoSaid:=
 OpenClaim.holds_of_cond 4 Tryz.f4 rfl rfl rfl rfl rfl rfl rfl ⟨rfl,rfl,rfl,rfl,rfl⟩ rfl rfl rfl rfl rfl (by kernel_rfl) Tryz.func4 (by kernel_rfl)
  (of_decide_eq_true (by kernel_rfl)) (by unfold Func.isWrapper;first|(rw [if_pos (by decide +kernel)];kernel_rfl)|(rw [if_neg (by decide +kernel)];exact⟨rfl,rfl⟩))
  (λos started H enc _ F=>amore_holds_lifted os started H enc F)
end amore
end Go.Proofs.YtibidnaedddfdaaGreat
