/- The law AlarmMore holds for every input. No conditions. -/
import Derived.Test.YtibidnaedddfdaaGreatDPureBits
import Derived.Test.YtibidnaedddfdaaGreatDPureMore
import Derived.Test.YtibidnaedddfdaaGreatDCore32
namespace Go.Proofs.YtibidnaedddfdaaGreat
set_option linter.all false
open Go.ChangeShapes Go.WideShapes Go.ChangeAt Go.RowKit
open Go.Proofs.Tryz
namespace amore
theorem rdx {α}{S:Nat→Prop}{h:BB}{r:B7 α}{v:Value}{l:List α}(k:Sl S h r v l) {x:α}(hx:x∈l):∃cs,r.rd S h cs x:=by
 obtain⟨i,hi⟩:=kJ.1 hx
 obtain⟨_,_,_,cs,_,h2⟩:=k.at_ hi
 exact⟨cs,h2⟩
theorem ins_in {S:Nat→Prop}{h:BB}{v:Value}{l:List CW}(k:Sl S h FB v l):∀x∈l,∀t∈x.Au,AD t.As:=λx hx t ht=>by
 obtain⟨cs,h0⟩:=rdx k hx
 have k:Rd S h FB (.agg cs.toArray) x:=by first|exact⟨_,rfl,h0⟩|exact⟨cs,rfl,h0⟩
 obtain⟨_,_,_,v3,_,_,_,_,_,k3,_⟩:=FB.ex k
 obtain⟨cs,h2⟩:=rdx k3 ht
 exact h2.2.2.2.1
theorem amore_ret {S:Nat→Prop}{L:List HP}{h:BB}(hs:St S L h) {v0:Value}{x0:AU}(k0:Rd S h Ch v0 x0) (x1:Int) (k1:AD x1) {v2:Value}{x2:Cf}(k2:Rd S h EZ v2 x2) {v3:Value}{x3:(List Cr)}(k3:Sl S h GF v3 x3) {v4:Value}{x4:(List CW)}(k4:Sl S h FB v4 x4) (x5:Int) (k5:AD x5) (l0:x0.D.length≤4398046511104) (l2:x2.S.length≤4398046511104) (l3:x3.length≤4398046511104):Ct prog 4 #[v0,.int .i64 x1,v2,v3,v4,.int .i64 x5] S h (λv S' h'=>v= .bool true∧St S' L h'):=
 KL hs k0 k1 k2 k3 k4 k5 (TN _ _ _ _ _ _ l0 l3 l2 (ins_in k4))
theorem opens_9:ER prog 9 B7.str:=Un (by kernel_rfl) underlying9
theorem opens_22:ER prog 22 (B7.sl B7.str):=FD (by kernel_rfl) underlying22 opens_9 rfl
theorem opens_3:ER prog 3 BQ:=Uo (by kernel_rfl) underlying3
theorem opens_90:ER prog 90 CM:=by
 have hc:prog.cellsOf 90=2:=by kernel_rfl
 refine⟨hc,λ{H enc w base spare held fuel cs x} h=>?_⟩
 obtain⟨hl,hf⟩:=DO underlying90 h
 rw[hc] at hl
 match cs,hl with
 |[c0,c1],_=>
  obtain⟨y0,k0⟩:=hf 0 _ BQ rfl opens_3
  obtain⟨e0,r0⟩:=k0
  obtain rfl:c0=_:=(iS (show[c0]=_ from e0)).1
  obtain⟨y1,k1⟩:=hf 1 _ BQ rfl opens_3
  obtain⟨e1,r1⟩:=k1
  obtain rfl:c1=_:=(iS (show[c1]=_ from e1)).1
  exact⟨⟨y0,y1⟩,⟨rfl,⟨r0,r1⟩⟩⟩
theorem opens_54:ER prog 54 (B7.sl CM):=FD (by kernel_rfl) underlying54 opens_90 rfl
theorem opens_29:ER prog 29 (B7.sl BQ):=FD (by kernel_rfl) underlying29 opens_3 rfl
theorem opens_164:ER prog 164 Je:=by
 have hc:prog.cellsOf 164=2:=by kernel_rfl
 refine⟨hc,λ{H enc w base spare held fuel cs x} h=>?_⟩
 obtain⟨hl,hf⟩:=DO underlying164 h
 rw[hc] at hl
 match cs,hl with
 |[c0,c1],_=>
  obtain⟨y0,k0⟩:=hf 0 _ BQ rfl opens_3
  obtain⟨e0,r0⟩:=k0
  obtain rfl:c0=_:=(iS (show[c0]=_ from e0)).1
  obtain⟨y1,k1⟩:=hf 1 _ BQ rfl opens_3
  obtain⟨e1,r1⟩:=k1
  obtain rfl:c1=_:=(iS (show[c1]=_ from e1)).1
  exact⟨⟨y0,y1⟩,⟨rfl,⟨r0,r1⟩⟩⟩
theorem opens_55:ER prog 55 (B7.sl Je):=FD (by kernel_rfl) underlying55 opens_164 rfl
theorem opens_57:ER prog 57 Cb:=by
 have hc:prog.cellsOf 57=12:=by kernel_rfl
 refine⟨hc,λ{H enc w base spare held fuel cs x} h=>?_⟩
 obtain⟨hl,hf⟩:=DO underlying57 h
 rw[hc] at hl
 match cs,hl with
 |[c0,c1,c2,c3,c4,c5,c6,c7,c8,c9,c10,c11],_=>
  obtain⟨y0,k0⟩:=hf 0 _ B7.str rfl opens_9
  obtain⟨e0,r0⟩:=k0
  obtain rfl:c0=_:=(iS (show[c0]=_ from e0)).1
  obtain⟨y1,k1⟩:=hf 1 _ BQ rfl opens_3
  obtain⟨e1,r1⟩:=k1
  obtain rfl:c1=_:=(iS (show[c1]=_ from e1)).1
  obtain⟨y2,k2⟩:=hf 2 _ BQ rfl opens_3
  obtain⟨e2,r2⟩:=k2
  obtain rfl:c2=_:=(iS (show[c2]=_ from e2)).1
  obtain⟨y3,k3⟩:=hf 3 _ BQ rfl opens_3
  obtain⟨e3,r3⟩:=k3
  obtain rfl:c3=_:=(iS (show[c3]=_ from e3)).1
  obtain⟨y4,k4⟩:=hf 4 _ (B7.sl CM) rfl opens_54
  obtain⟨w4,e4,r4⟩:=k4
  obtain rfl:c4=_:=(iS (show[c4]=_ from e4)).1
  obtain⟨y5,k5⟩:=hf 5 _ (B7.sl BQ) rfl opens_29
  obtain⟨w5,e5,r5⟩:=k5
  obtain rfl:c5=_:=(iS (show[c5]=_ from e5)).1
  obtain⟨y6,k6⟩:=hf 6 _ BQ rfl opens_3
  obtain⟨e6,r6⟩:=k6
  obtain rfl:c6=_:=(iS (show[c6]=_ from e6)).1
  obtain⟨y7,k7⟩:=hf 7 _ BQ rfl opens_3
  obtain⟨e7,r7⟩:=k7
  obtain rfl:c7=_:=(iS (show[c7]=_ from e7)).1
  obtain⟨y8,k8⟩:=hf 8 _ BQ rfl opens_3
  obtain⟨e8,r8⟩:=k8
  obtain rfl:c8=_:=(iS (show[c8]=_ from e8)).1
  obtain⟨y9,k9⟩:=hf 9 _ BQ rfl opens_3
  obtain⟨e9,r9⟩:=k9
  obtain rfl:c9=_:=(iS (show[c9]=_ from e9)).1
  obtain⟨y10,k10⟩:=hf 10 _ BQ rfl opens_3
  obtain⟨e10,r10⟩:=k10
  obtain rfl:c10=_:=(iS (show[c10]=_ from e10)).1
  obtain⟨y11,k11⟩:=hf 11 _ (B7.sl Je) rfl opens_55
  obtain⟨w11,e11,r11⟩:=k11
  obtain rfl:c11=_:=(iS (show[c11]=_ from e11)).1
  exact⟨⟨y0,y1,y2,y3,y4,y5,y6,y7,y8,y9,y10,y11⟩,⟨c4,c5,c11,rfl,r0,r1,r2,r3,r4,r5,r6,r7,r8,r9,r10,r11⟩⟩
theorem opens_23:ER prog 23 (B7.sl Cb):=FD (by kernel_rfl) underlying23 opens_57 rfl
theorem opens_100:ER prog 100 LC:=by
 have hc:prog.cellsOf 100=2:=by kernel_rfl
 refine⟨hc,λ{H enc w base spare held fuel cs x} h=>?_⟩
 obtain⟨hl,hf⟩:=DO underlying100 h
 rw[hc] at hl
 match cs,hl with
 |[c0,c1],_=>
  obtain⟨y0,k0⟩:=hf 0 _ (B7.sl CM) rfl opens_54
  obtain⟨w0,e0,r0⟩:=k0
  obtain rfl:c0=_:=(iS (show[c0]=_ from e0)).1
  obtain⟨y1,k1⟩:=hf 1 _ (B7.sl CM) rfl opens_54
  obtain⟨w1,e1,r1⟩:=k1
  obtain rfl:c1=_:=(iS (show[c1]=_ from e1)).1
  exact⟨⟨y0,y1⟩,⟨c0,c1,rfl,r0,r1⟩⟩
theorem opens_102:ER prog 102 CI:=by
 have hc:prog.cellsOf 102=18:=by kernel_rfl
 refine⟨hc,λ{H enc w base spare held fuel cs x} h=>?_⟩
 obtain⟨hl,hf⟩:=DO underlying102 h
 rw[hc] at hl
 match cs,hl with
 |[c0,c1,c2,c3,c4,c5,c6,c7,c8,c9,c10,c11,c12,c13,c14,c15,c16,c17],_=>
  obtain⟨y0,k0⟩:=hf 0 _ B7.str rfl opens_9
  obtain⟨e0,r0⟩:=k0
  obtain rfl:c0=_:=(iS (show[c0]=_ from e0)).1
  obtain⟨y1,k1⟩:=hf 1 _ BQ rfl opens_3
  obtain⟨e1,r1⟩:=k1
  obtain rfl:c1=_:=(iS (show[c1]=_ from e1)).1
  obtain⟨y2,k2⟩:=hf 2 _ BQ rfl opens_3
  obtain⟨e2,r2⟩:=k2
  obtain rfl:c2=_:=(iS (show[c2]=_ from e2)).1
  obtain⟨y3,k3⟩:=hf 3 _ BQ rfl opens_3
  obtain⟨e3,r3⟩:=k3
  obtain rfl:c3=_:=(iS (show[c3]=_ from e3)).1
  obtain⟨y4,k4⟩:=hf 4 _ (B7.sl CM) rfl opens_54
  obtain⟨w4,e4,r4⟩:=k4
  obtain rfl:c4=_:=(iS (show[c4]=_ from e4)).1
  obtain⟨y5,k5⟩:=hf 5 _ LC rfl opens_100
  obtain⟨w5_0,w5_1,e5,r5_0,r5_1⟩:=k5
  obtain⟨rfl,rfl⟩:c5=_∧c6=_:=by simpa using (show[c5,c6]=_ from e5)
  obtain⟨y6,k6⟩:=hf 6 _ BQ rfl opens_3
  obtain⟨e6,r6⟩:=k6
  obtain rfl:c7=_:=(iS (show[c7]=_ from e6)).1
  obtain⟨y7,k7⟩:=hf 7 _ BQ rfl opens_3
  obtain⟨e7,r7⟩:=k7
  obtain rfl:c8=_:=(iS (show[c8]=_ from e7)).1
  obtain⟨y8,k8⟩:=hf 8 _ BQ rfl opens_3
  obtain⟨e8,r8⟩:=k8
  obtain rfl:c9=_:=(iS (show[c9]=_ from e8)).1
  obtain⟨y9,k9⟩:=hf 9 _ BQ rfl opens_3
  obtain⟨e9,r9⟩:=k9
  obtain rfl:c10=_:=(iS (show[c10]=_ from e9)).1
  obtain⟨y10,k10⟩:=hf 10 _ BQ rfl opens_3
  obtain⟨e10,r10⟩:=k10
  obtain rfl:c11=_:=(iS (show[c11]=_ from e10)).1
  obtain⟨y11,k11⟩:=hf 11 _ BQ rfl opens_3
  obtain⟨e11,r11⟩:=k11
  obtain rfl:c12=_:=(iS (show[c12]=_ from e11)).1
  obtain⟨y12,k12⟩:=hf 12 _ BQ rfl opens_3
  obtain⟨e12,r12⟩:=k12
  obtain rfl:c13=_:=(iS (show[c13]=_ from e12)).1
  obtain⟨y13,k13⟩:=hf 13 _ BQ rfl opens_3
  obtain⟨e13,r13⟩:=k13
  obtain rfl:c14=_:=(iS (show[c14]=_ from e13)).1
  obtain⟨y14,k14⟩:=hf 14 _ BQ rfl opens_3
  obtain⟨e14,r14⟩:=k14
  obtain rfl:c15=_:=(iS (show[c15]=_ from e14)).1
  obtain⟨y15,k15⟩:=hf 15 _ BQ rfl opens_3
  obtain⟨e15,r15⟩:=k15
  obtain rfl:c16=_:=(iS (show[c16]=_ from e15)).1
  obtain⟨y16,k16⟩:=hf 16 _ BQ rfl opens_3
  obtain⟨e16,r16⟩:=k16
  obtain rfl:c17=_:=(iS (show[c17]=_ from e16)).1
  exact⟨⟨y0,y1,y2,y3,y4,y5,y6,y7,y8,y9,y10,y11,y12,y13,y14,y15,y16⟩,⟨c4,c5,c6,rfl,r0,r1,r2,r3,r4,r5_0,r5_1,r6,r7,r8,r9,r10,r11,r12,r13,r14,r15,r16⟩⟩
theorem opens_24:ER prog 24 (B7.sl CI):=FD (by kernel_rfl) underlying24 opens_102 rfl
theorem opens_114:ER prog 114 Fi:=by
 have hc:prog.cellsOf 114=7:=by kernel_rfl
 refine⟨hc,λ{H enc w base spare held fuel cs x} h=>?_⟩
 obtain⟨hl,hf⟩:=DO underlying114 h
 rw[hc] at hl
 match cs,hl with
 |[c0,c1,c2,c3,c4,c5,c6],_=>
  obtain⟨y0,k0⟩:=hf 0 _ B7.str rfl opens_9
  obtain⟨e0,r0⟩:=k0
  obtain rfl:c0=_:=(iS (show[c0]=_ from e0)).1
  obtain⟨y1,k1⟩:=hf 1 _ BQ rfl opens_3
  obtain⟨e1,r1⟩:=k1
  obtain rfl:c1=_:=(iS (show[c1]=_ from e1)).1
  obtain⟨y2,k2⟩:=hf 2 _ BQ rfl opens_3
  obtain⟨e2,r2⟩:=k2
  obtain rfl:c2=_:=(iS (show[c2]=_ from e2)).1
  obtain⟨y3,k3⟩:=hf 3 _ BQ rfl opens_3
  obtain⟨e3,r3⟩:=k3
  obtain rfl:c3=_:=(iS (show[c3]=_ from e3)).1
  obtain⟨y4,k4⟩:=hf 4 _ BQ rfl opens_3
  obtain⟨e4,r4⟩:=k4
  obtain rfl:c4=_:=(iS (show[c4]=_ from e4)).1
  obtain⟨y5,k5⟩:=hf 5 _ BQ rfl opens_3
  obtain⟨e5,r5⟩:=k5
  obtain rfl:c5=_:=(iS (show[c5]=_ from e5)).1
  obtain⟨y6,k6⟩:=hf 6 _ BQ rfl opens_3
  obtain⟨e6,r6⟩:=k6
  obtain rfl:c6=_:=(iS (show[c6]=_ from e6)).1
  exact⟨⟨y0,y1,y2,y3,y4,y5,y6⟩,⟨rfl,⟨r0,r1,r2,r3,r4,r5,r6⟩⟩⟩
theorem opens_25:ER prog 25 (B7.sl Fi):=FD (by kernel_rfl) underlying25 opens_114 rfl
theorem opens_147:ER prog 147 Ez:=by
 have hc:prog.cellsOf 147=5:=by kernel_rfl
 refine⟨hc,λ{H enc w base spare held fuel cs x} h=>?_⟩
 obtain⟨hl,hf⟩:=DO underlying147 h
 rw[hc] at hl
 match cs,hl with
 |[c0,c1,c2,c3,c4],_=>
  obtain⟨y0,k0⟩:=hf 0 _ B7.str rfl opens_9
  obtain⟨e0,r0⟩:=k0
  obtain rfl:c0=_:=(iS (show[c0]=_ from e0)).1
  obtain⟨y1,k1⟩:=hf 1 _ BQ rfl opens_3
  obtain⟨e1,r1⟩:=k1
  obtain rfl:c1=_:=(iS (show[c1]=_ from e1)).1
  obtain⟨y2,k2⟩:=hf 2 _ BQ rfl opens_3
  obtain⟨e2,r2⟩:=k2
  obtain rfl:c2=_:=(iS (show[c2]=_ from e2)).1
  obtain⟨y3,k3⟩:=hf 3 _ BQ rfl opens_3
  obtain⟨e3,r3⟩:=k3
  obtain rfl:c3=_:=(iS (show[c3]=_ from e3)).1
  obtain⟨y4,k4⟩:=hf 4 _ BQ rfl opens_3
  obtain⟨e4,r4⟩:=k4
  obtain rfl:c4=_:=(iS (show[c4]=_ from e4)).1
  exact⟨⟨y0,y1,y2,y3,y4⟩,⟨rfl,⟨r0,r1,r2,r3,r4⟩⟩⟩
theorem opens_26:ER prog 26 (B7.sl Ez):=FD (by kernel_rfl) underlying26 opens_147 rfl
theorem opens_160:ER prog 160 GN:=by
 have hc:prog.cellsOf 160=7:=by kernel_rfl
 refine⟨hc,λ{H enc w base spare held fuel cs x} h=>?_⟩
 obtain⟨hl,hf⟩:=DO underlying160 h
 rw[hc] at hl
 match cs,hl with
 |[c0,c1,c2,c3,c4,c5,c6],_=>
  obtain⟨y0,k0⟩:=hf 0 _ B7.str rfl opens_9
  obtain⟨e0,r0⟩:=k0
  obtain rfl:c0=_:=(iS (show[c0]=_ from e0)).1
  obtain⟨y1,k1⟩:=hf 1 _ BQ rfl opens_3
  obtain⟨e1,r1⟩:=k1
  obtain rfl:c1=_:=(iS (show[c1]=_ from e1)).1
  obtain⟨y2,k2⟩:=hf 2 _ BQ rfl opens_3
  obtain⟨e2,r2⟩:=k2
  obtain rfl:c2=_:=(iS (show[c2]=_ from e2)).1
  obtain⟨y3,k3⟩:=hf 3 _ BQ rfl opens_3
  obtain⟨e3,r3⟩:=k3
  obtain rfl:c3=_:=(iS (show[c3]=_ from e3)).1
  obtain⟨y4,k4⟩:=hf 4 _ BQ rfl opens_3
  obtain⟨e4,r4⟩:=k4
  obtain rfl:c4=_:=(iS (show[c4]=_ from e4)).1
  obtain⟨y5,k5⟩:=hf 5 _ BQ rfl opens_3
  obtain⟨e5,r5⟩:=k5
  obtain rfl:c5=_:=(iS (show[c5]=_ from e5)).1
  obtain⟨y6,k6⟩:=hf 6 _ BQ rfl opens_3
  obtain⟨e6,r6⟩:=k6
  obtain rfl:c6=_:=(iS (show[c6]=_ from e6)).1
  exact⟨⟨y0,y1,y2,y3,y4,y5,y6⟩,⟨rfl,⟨r0,r1,r2,r3,r4,r5,r6⟩⟩⟩
theorem opens_27:ER prog 27 (B7.sl GN):=FD (by kernel_rfl) underlying27 opens_160 rfl
theorem opens_158:ER prog 158 Dr:=by
 have hc:prog.cellsOf 158=2:=by kernel_rfl
 refine⟨hc,λ{H enc w base spare held fuel cs x} h=>?_⟩
 obtain⟨hl,hf⟩:=DO underlying158 h
 rw[hc] at hl
 match cs,hl with
 |[c0,c1],_=>
  obtain⟨y0,k0⟩:=hf 0 _ B7.str rfl opens_9
  obtain⟨e0,r0⟩:=k0
  obtain rfl:c0=_:=(iS (show[c0]=_ from e0)).1
  obtain⟨y1,k1⟩:=hf 1 _ BQ rfl opens_3
  obtain⟨e1,r1⟩:=k1
  obtain rfl:c1=_:=(iS (show[c1]=_ from e1)).1
  exact⟨⟨y0,y1⟩,⟨rfl,⟨r0,r1⟩⟩⟩
theorem opens_28:ER prog 28 (B7.sl Dr):=FD (by kernel_rfl) underlying28 opens_158 rfl
theorem opens_31:ER prog 31 Ch:=by
 have hc:prog.cellsOf 31=11:=by kernel_rfl
 refine⟨hc,λ{H enc w base spare held fuel cs x} h=>?_⟩
 obtain⟨hl,hf⟩:=DO underlying31 h
 rw[hc] at hl
 match cs,hl with
 |[c0,c1,c2,c3,c4,c5,c6,c7,c8,c9,c10],_=>
  obtain⟨y0,k0⟩:=hf 0 _ B7.str rfl opens_9
  obtain⟨e0,r0⟩:=k0
  obtain rfl:c0=_:=(iS (show[c0]=_ from e0)).1
  obtain⟨y1,k1⟩:=hf 1 _ (B7.sl B7.str) rfl opens_22
  obtain⟨w1,e1,r1⟩:=k1
  obtain rfl:c1=_:=(iS (show[c1]=_ from e1)).1
  obtain⟨y2,k2⟩:=hf 2 _ BQ rfl opens_3
  obtain⟨e2,r2⟩:=k2
  obtain rfl:c2=_:=(iS (show[c2]=_ from e2)).1
  obtain⟨y3,k3⟩:=hf 3 _ (B7.sl Cb) rfl opens_23
  obtain⟨w3,e3,r3⟩:=k3
  obtain rfl:c3=_:=(iS (show[c3]=_ from e3)).1
  obtain⟨y4,k4⟩:=hf 4 _ (B7.sl CI) rfl opens_24
  obtain⟨w4,e4,r4⟩:=k4
  obtain rfl:c4=_:=(iS (show[c4]=_ from e4)).1
  obtain⟨y5,k5⟩:=hf 5 _ (B7.sl Fi) rfl opens_25
  obtain⟨w5,e5,r5⟩:=k5
  obtain rfl:c5=_:=(iS (show[c5]=_ from e5)).1
  obtain⟨y6,k6⟩:=hf 6 _ (B7.sl Ez) rfl opens_26
  obtain⟨w6,e6,r6⟩:=k6
  obtain rfl:c6=_:=(iS (show[c6]=_ from e6)).1
  obtain⟨y7,k7⟩:=hf 7 _ (B7.sl GN) rfl opens_27
  obtain⟨w7,e7,r7⟩:=k7
  obtain rfl:c7=_:=(iS (show[c7]=_ from e7)).1
  obtain⟨y8,k8⟩:=hf 8 _ (B7.sl Dr) rfl opens_28
  obtain⟨w8,e8,r8⟩:=k8
  obtain rfl:c8=_:=(iS (show[c8]=_ from e8)).1
  obtain⟨y9,k9⟩:=hf 9 _ (B7.sl BQ) rfl opens_29
  obtain⟨w9,e9,r9⟩:=k9
  obtain rfl:c9=_:=(iS (show[c9]=_ from e9)).1
  obtain⟨y10,k10⟩:=hf 10 _ BQ rfl opens_3
  obtain⟨e10,r10⟩:=k10
  obtain rfl:c10=_:=(iS (show[c10]=_ from e10)).1
  exact⟨⟨y0,y1,y2,y3,y4,y5,y6,y7,y8,y9,y10⟩,⟨c1,c3,c4,c5,c6,c7,c8,c9,rfl,r0,r1,r2,r3,r4,r5,r6,r7,r8,r9,r10⟩⟩
theorem opens_51:ER prog 51 AM:=by
 have hc:prog.cellsOf 51=2:=by kernel_rfl
 refine⟨hc,λ{H enc w base spare held fuel cs x} h=>?_⟩
 obtain⟨hl,hf⟩:=DO underlying51 h
 rw[hc] at hl
 match cs,hl with
 |[c0,c1],_=>
  obtain⟨y0,k0⟩:=hf 0 _ BQ rfl opens_3
  obtain⟨e0,r0⟩:=k0
  obtain rfl:c0=_:=(iS (show[c0]=_ from e0)).1
  obtain⟨y1,k1⟩:=hf 1 _ BQ rfl opens_3
  obtain⟨e1,r1⟩:=k1
  obtain rfl:c1=_:=(iS (show[c1]=_ from e1)).1
  exact⟨⟨y0,y1⟩,⟨rfl,⟨r0,r1⟩⟩⟩
theorem opens_32:ER prog 32 (B7.sl AM):=FD (by kernel_rfl) underlying32 opens_51 rfl
theorem opens_93:ER prog 93 Ce:=by
 have hc:prog.cellsOf 93=4:=by kernel_rfl
 refine⟨hc,λ{H enc w base spare held fuel cs x} h=>?_⟩
 obtain⟨hl,hf⟩:=DO underlying93 h
 rw[hc] at hl
 match cs,hl with
 |[c0,c1,c2,c3],_=>
  obtain⟨y0,k0⟩:=hf 0 _ BQ rfl opens_3
  obtain⟨e0,r0⟩:=k0
  obtain rfl:c0=_:=(iS (show[c0]=_ from e0)).1
  obtain⟨y1,k1⟩:=hf 1 _ BQ rfl opens_3
  obtain⟨e1,r1⟩:=k1
  obtain rfl:c1=_:=(iS (show[c1]=_ from e1)).1
  obtain⟨y2,k2⟩:=hf 2 _ AM rfl opens_51
  obtain⟨e2,⟨r2_0,r2_1⟩⟩:=k2
  obtain⟨rfl,rfl⟩:c2=_∧c3=_:=by simpa using (show[c2,c3]=_ from e2)
  exact⟨⟨y0,y1,y2⟩,⟨rfl,⟨r0,r1,r2_0,r2_1⟩⟩⟩
theorem opens_33:ER prog 33 (B7.sl Ce):=FD (by kernel_rfl) underlying33 opens_93 rfl
theorem opens_97:ER prog 97 BK:=by
 have hc:prog.cellsOf 97=5:=by kernel_rfl
 refine⟨hc,λ{H enc w base spare held fuel cs x} h=>?_⟩
 obtain⟨hl,hf⟩:=DO underlying97 h
 rw[hc] at hl
 match cs,hl with
 |[c0,c1,c2,c3,c4],_=>
  obtain⟨y0,k0⟩:=hf 0 _ AM rfl opens_51
  obtain⟨e0,⟨r0_0,r0_1⟩⟩:=k0
  obtain⟨rfl,rfl⟩:c0=_∧c1=_:=by simpa using (show[c0,c1]=_ from e0)
  obtain⟨y1,k1⟩:=hf 1 _ BQ rfl opens_3
  obtain⟨e1,r1⟩:=k1
  obtain rfl:c2=_:=(iS (show[c2]=_ from e1)).1
  obtain⟨y2,k2⟩:=hf 2 _ AM rfl opens_51
  obtain⟨e2,⟨r2_0,r2_1⟩⟩:=k2
  obtain⟨rfl,rfl⟩:c3=_∧c4=_:=by simpa using (show[c3,c4]=_ from e2)
  exact⟨⟨y0,y1,y2⟩,⟨rfl,⟨r0_0,r0_1,r1,r2_0,r2_1⟩⟩⟩
theorem opens_34:ER prog 34 (B7.sl BK):=FD (by kernel_rfl) underlying34 opens_97 rfl
theorem opens_36:ER prog 36 EZ:=by
 have hc:prog.cellsOf 36=4:=by kernel_rfl
 refine⟨hc,λ{H enc w base spare held fuel cs x} h=>?_⟩
 obtain⟨hl,hf⟩:=DO underlying36 h
 rw[hc] at hl
 match cs,hl with
 |[c0,c1,c2,c3],_=>
  obtain⟨y0,k0⟩:=hf 0 _ BQ rfl opens_3
  obtain⟨e0,r0⟩:=k0
  obtain rfl:c0=_:=(iS (show[c0]=_ from e0)).1
  obtain⟨y1,k1⟩:=hf 1 _ (B7.sl AM) rfl opens_32
  obtain⟨w1,e1,r1⟩:=k1
  obtain rfl:c1=_:=(iS (show[c1]=_ from e1)).1
  obtain⟨y2,k2⟩:=hf 2 _ (B7.sl Ce) rfl opens_33
  obtain⟨w2,e2,r2⟩:=k2
  obtain rfl:c2=_:=(iS (show[c2]=_ from e2)).1
  obtain⟨y3,k3⟩:=hf 3 _ (B7.sl BK) rfl opens_34
  obtain⟨w3,e3,r3⟩:=k3
  obtain rfl:c3=_:=(iS (show[c3]=_ from e3)).1
  exact⟨⟨y0,y1,y2,y3⟩,⟨c1,c2,c3,rfl,r0,r1,r2,r3⟩⟩
theorem opens_121:ER prog 121 (B7.sl (B7.sl AM)):=FD (by kernel_rfl) underlying121 opens_32 rfl
theorem opens_123:ER prog 123 GF:=by
 have hc:prog.cellsOf 123=3:=by kernel_rfl
 refine⟨hc,λ{H enc w base spare held fuel cs x} h=>?_⟩
 obtain⟨hl,hf⟩:=DO underlying123 h
 rw[hc] at hl
 match cs,hl with
 |[c0,c1,c2],_=>
  obtain⟨y0,k0⟩:=hf 0 _ BQ rfl opens_3
  obtain⟨e0,r0⟩:=k0
  obtain rfl:c0=_:=(iS (show[c0]=_ from e0)).1
  obtain⟨y1,k1⟩:=hf 1 _ BQ rfl opens_3
  obtain⟨e1,r1⟩:=k1
  obtain rfl:c1=_:=(iS (show[c1]=_ from e1)).1
  obtain⟨y2,k2⟩:=hf 2 _ (B7.sl (B7.sl AM)) rfl opens_121
  obtain⟨w2,e2,r2⟩:=k2
  obtain rfl:c2=_:=(iS (show[c2]=_ from e2)).1
  exact⟨⟨y0,y1,y2⟩,⟨c2,rfl,r0,r1,r2⟩⟩
theorem opens_59:ER prog 59 (B7.sl GF):=FD (by kernel_rfl) underlying59 opens_123 rfl
theorem opens_171:ER prog 171 Hv:=by
 have hc:prog.cellsOf 171=2:=by kernel_rfl
 refine⟨hc,λ{H enc w base spare held fuel cs x} h=>?_⟩
 obtain⟨hl,hf⟩:=DO underlying171 h
 rw[hc] at hl
 match cs,hl with
 |[c0,c1],_=>
  obtain⟨y0,k0⟩:=hf 0 _ BQ rfl opens_3
  obtain⟨e0,r0⟩:=k0
  obtain rfl:c0=_:=(iS (show[c0]=_ from e0)).1
  obtain⟨y1,k1⟩:=hf 1 _ BQ rfl opens_3
  obtain⟨e1,r1⟩:=k1
  obtain rfl:c1=_:=(iS (show[c1]=_ from e1)).1
  exact⟨⟨y0,y1⟩,⟨rfl,⟨r0,r1⟩⟩⟩
theorem opens_37:ER prog 37 (B7.sl Hv):=FD (by kernel_rfl) underlying37 opens_171 rfl
theorem opens_173:ER prog 173 KB:=by
 have hc:prog.cellsOf 173=2:=by kernel_rfl
 refine⟨hc,λ{H enc w base spare held fuel cs x} h=>?_⟩
 obtain⟨hl,hf⟩:=DO underlying173 h
 rw[hc] at hl
 match cs,hl with
 |[c0,c1],_=>
  obtain⟨y0,k0⟩:=hf 0 _ BQ rfl opens_3
  obtain⟨e0,r0⟩:=k0
  obtain rfl:c0=_:=(iS (show[c0]=_ from e0)).1
  obtain⟨y1,k1⟩:=hf 1 _ BQ rfl opens_3
  obtain⟨e1,r1⟩:=k1
  obtain rfl:c1=_:=(iS (show[c1]=_ from e1)).1
  exact⟨⟨y0,y1⟩,⟨rfl,⟨r0,r1⟩⟩⟩
theorem opens_38:ER prog 38 (B7.sl KB):=FD (by kernel_rfl) underlying38 opens_173 rfl
theorem opens_184:ER prog 184 Hq:=by
 have hc:prog.cellsOf 184=4:=by kernel_rfl
 refine⟨hc,λ{H enc w base spare held fuel cs x} h=>?_⟩
 obtain⟨hl,hf⟩:=DO underlying184 h
 rw[hc] at hl
 match cs,hl with
 |[c0,c1,c2,c3],_=>
  obtain⟨y0,k0⟩:=hf 0 _ BQ rfl opens_3
  obtain⟨e0,r0⟩:=k0
  obtain rfl:c0=_:=(iS (show[c0]=_ from e0)).1
  obtain⟨y1,k1⟩:=hf 1 _ BQ rfl opens_3
  obtain⟨e1,r1⟩:=k1
  obtain rfl:c1=_:=(iS (show[c1]=_ from e1)).1
  obtain⟨y2,k2⟩:=hf 2 _ BQ rfl opens_3
  obtain⟨e2,r2⟩:=k2
  obtain rfl:c2=_:=(iS (show[c2]=_ from e2)).1
  obtain⟨y3,k3⟩:=hf 3 _ BQ rfl opens_3
  obtain⟨e3,r3⟩:=k3
  obtain rfl:c3=_:=(iS (show[c3]=_ from e3)).1
  exact⟨⟨y0,y1,y2,y3⟩,⟨rfl,⟨r0,r1,r2,r3⟩⟩⟩
theorem opens_39:ER prog 39 (B7.sl Hq):=FD (by kernel_rfl) underlying39 opens_184 rfl
theorem opens_260:ER prog 260 If:=by
 have hc:prog.cellsOf 260=4:=by kernel_rfl
 refine⟨hc,λ{H enc w base spare held fuel cs x} h=>?_⟩
 obtain⟨hl,hf⟩:=DO underlying260 h
 rw[hc] at hl
 match cs,hl with
 |[c0,c1,c2,c3],_=>
  obtain⟨y0,k0⟩:=hf 0 _ BQ rfl opens_3
  obtain⟨e0,r0⟩:=k0
  obtain rfl:c0=_:=(iS (show[c0]=_ from e0)).1
  obtain⟨y1,k1⟩:=hf 1 _ BQ rfl opens_3
  obtain⟨e1,r1⟩:=k1
  obtain rfl:c1=_:=(iS (show[c1]=_ from e1)).1
  obtain⟨y2,k2⟩:=hf 2 _ BQ rfl opens_3
  obtain⟨e2,r2⟩:=k2
  obtain rfl:c2=_:=(iS (show[c2]=_ from e2)).1
  obtain⟨y3,k3⟩:=hf 3 _ BQ rfl opens_3
  obtain⟨e3,r3⟩:=k3
  obtain rfl:c3=_:=(iS (show[c3]=_ from e3)).1
  exact⟨⟨y0,y1,y2,y3⟩,⟨rfl,⟨r0,r1,r2,r3⟩⟩⟩
theorem opens_40:ER prog 40 (B7.sl If):=FD (by kernel_rfl) underlying40 opens_260 rfl
theorem opens_42:ER prog 42 FB:=by
 have hc:prog.cellsOf 42=5:=by kernel_rfl
 refine⟨hc,λ{H enc w base spare held fuel cs x} h=>?_⟩
 obtain⟨hl,hf⟩:=DO underlying42 h
 rw[hc] at hl
 match cs,hl with
 |[c0,c1,c2,c3,c4],_=>
  obtain⟨y0,k0⟩:=hf 0 _ (B7.sl BQ) rfl opens_29
  obtain⟨w0,e0,r0⟩:=k0
  obtain rfl:c0=_:=(iS (show[c0]=_ from e0)).1
  obtain⟨y1,k1⟩:=hf 1 _ (B7.sl Hv) rfl opens_37
  obtain⟨w1,e1,r1⟩:=k1
  obtain rfl:c1=_:=(iS (show[c1]=_ from e1)).1
  obtain⟨y2,k2⟩:=hf 2 _ (B7.sl KB) rfl opens_38
  obtain⟨w2,e2,r2⟩:=k2
  obtain rfl:c2=_:=(iS (show[c2]=_ from e2)).1
  obtain⟨y3,k3⟩:=hf 3 _ (B7.sl Hq) rfl opens_39
  obtain⟨w3,e3,r3⟩:=k3
  obtain rfl:c3=_:=(iS (show[c3]=_ from e3)).1
  obtain⟨y4,k4⟩:=hf 4 _ (B7.sl If) rfl opens_40
  obtain⟨w4,e4,r4⟩:=k4
  obtain rfl:c4=_:=(iS (show[c4]=_ from e4)).1
  exact⟨⟨y0,y1,y2,y3,y4⟩,⟨c0,c1,c2,c3,c4,rfl,r0,r1,r2,r3,r4⟩⟩
theorem opens_60:ER prog 60 (B7.sl FB):=FD (by kernel_rfl) underlying60 opens_42 rfl
set_option maxRecDepth 100000 in
theorem amore_holds_lifted (os:Os) (started:os.Started) (H:Type) (enc:TypeId×Value→H):
  ReturnsInHanded {} Tryz.checked os 4 .any (Rows.alarmMoreSpec.pre6 enc prog Tryz.f4 Rows.alarmMoreRow.domain false) (Rows.alarmMoreSpec.post enc prog Tryz.f4 false true false false):=by
 refine returnsInHanded_of_change_sized (C:=Tryz.checked) (by kernel_rfl) started (by kernel_rfl) func4
  (ChangeSpec.witness6 (enc:=enc) (C:=Tryz.checked) false ⟨#[],#[.agg #[.string ByteArray.empty,.slice none 0 0,.int .i64 0,.slice none 0 0,.slice none 0 0,.slice none 0 0,.slice none 0 0,.slice none 0 0,.slice none 0 0,.slice none 0 0,.int .i64 0],.int .i64 0,.agg #[.int .i64 0,.slice none 0 0,.slice none 0 0,.slice none 0 0],.slice none 0 0,.slice none 0 0,.int .i64 0],[]⟩ 8 (by kernel_rfl) (by kernel_rfl) (by kernel_rfl) (by kernel_rfl)) ?_
 intro W base args ds gs before hval0 hW hcnd hsz _
 have hval:∀(j:Nat) t v,Tryz.f4.params[j]? =some t→args[j]? =some v→Value.okWide prog W .any base t v:=hval0
 have hW':=hW
 obtain⟨p,q,hA0,hV,rfl,hfz,hnd⟩:=hW
 have hA:DataW.TrodAll enc prog W 0 (λ_=>true) true Tryz.f4.params.toList args.toList ds p:=hA0
 rw[params4] at hA hval hsz
 obtain⟨v0,vs0,d0,ds0,p0,q0,ha0,rfl,rfl,h0,r0⟩:=trodAll_cons hA
 obtain⟨v1,vs1,d1,ds1,p1,q1,rfl,rfl,rfl,h1,r1⟩:=trodAll_cons r0
 obtain⟨v2,vs2,d2,ds2,p2,q2,rfl,rfl,rfl,h2,r2⟩:=trodAll_cons r1
 obtain⟨v3,vs3,d3,ds3,p3,q3,rfl,rfl,rfl,h3,r3⟩:=trodAll_cons r2
 obtain⟨v4,vs4,d4,ds4,p4,q4,rfl,rfl,rfl,h4,r4⟩:=trodAll_cons r3
 obtain⟨v5,vs5,d5,ds5,p5,q5,rfl,rfl,rfl,h5,r5⟩:=trodAll_cons r4
 obtain⟨rfl,rfl,rfl⟩:=trodAll_nil r5
 obtain rfl:args= #[v0,v1,v2,v3,v4,v5]:=by cases args;simp_all
 obtain⟨rfl,rfl⟩:=trodVars_none hV
 obtain⟨x0,k0⟩:=W4 opens_31 rfl underlying31 (hval 0 31 v0 rfl rfl) h0
 obtain⟨x1,k1⟩:=O4 opens_3 rfl rfl (Vq underlying3 (hval 1 3 v1 rfl rfl)) h1
 obtain⟨x2,k2⟩:=W4 opens_36 rfl underlying36 (hval 2 36 v2 rfl rfl) h2
 obtain⟨x3,k3⟩:=O4 opens_59 rfl rfl (R9 underlying59 (hval 3 59 v3 rfl rfl)) h3
 obtain⟨x4,k4⟩:=O4 opens_60 rfl rfl (R9 underlying60 (hval 4 60 v4 rfl rfl)) h4
 obtain⟨x5,k5⟩:=O4 opens_3 rfl rfl (Vq underlying3 (hval 5 3 v5 rfl rfl)) h5
 obtain⟨rfl,ki1⟩:=k1.int
 obtain⟨rfl,ki5⟩:=k5.int
 have hsw:=λq hq=>lK (iT.1 hsz q hq)
 have hR:=reachBytes_lt
 have lb0:x0.D.length≤4398046511104:=by
  obtain⟨w0,w1,w2,w3,w4,w5,w6,w7,ev,hex⟩:=Ch.ex k0
  subst ev
  have hb:=Sj underlying31 h0 (λq hq=>hsw q (NJ (j:=0) rfl rfl q hq)) (j:=3) rfl underlying23 (by kernel_rfl) rfl hex.2.2.2.1
  rw[show prog.bytesOf 57=152 by kernel_rfl] at hb
  omega
 have lb1:x2.S.length≤4398046511104:=by
  obtain⟨w0,w1,w2,ev,hex⟩:=EZ.ex k2
  subst ev
  have hb:=Sj underlying36 h2 (λq hq=>hsw q (NJ (j:=2) rfl rfl q hq)) (j:=2) rfl underlying33 (by kernel_rfl) rfl hex.2.2.1
  rw[show prog.bytesOf 93=32 by kernel_rfl] at hb
  omega
 have lb2:x3.length≤4398046511104:=by
  have hb:=W5 underlying59 h3 (λq hq=>hsw q (NJ (j:=3) rfl rfl q hq)) k3.sl
  rw[show prog.bytesOf 123=40 by kernel_rfl] at hb
  omega
 refine(Ur (amore_ret (St.all W.heap) k0 x1 ki1 k2 k3.sl k4.sl x5 ki5 lb0 lb1 lb2)).mono λe W' ⟨he,hb⟩=>⟨_,he,?_⟩
 exact Vz (tb:=4) (by kernel_rfl) (by kernel_rfl) hW' (by kernel_rfl) underlying4 rfl rfl rfl rfl hb
theorem amore_holds:Rows.AlarmMoreSaid:=
 OpenClaim.holds_of_wide 4 Tryz.f4 rfl rfl rfl rfl rfl rfl rfl ⟨rfl,rfl,rfl,rfl,rfl⟩ rfl rfl rfl rfl rfl (by kernel_rfl) func4 (by kernel_rfl)
  (lK (by kernel_rfl)) (by unfold Func.isWrapper;first|(rw [iR (by decide +kernel)];kernel_rfl)|(rw [iP (by decide +kernel)];exact⟨rfl,rfl⟩))
  (λos started H enc _=>amore_holds_lifted os started H enc)
end amore
end Go.Proofs.YtibidnaedddfdaaGreat
