import Derived.Test.YtblcgjadhemlbaaGreatQFacts
import Derived.Test.YtblcgjadhemlbaaGreatQForms
namespace Go.Proofs.YtblcgjadhemlbaaGreat
open Go.RowKit
set_option linter.unusedVariables false
set_option linter.unusedSimpArgs false
set_option maxRecDepth 10000
set_option maxHeartbeats 2000000
variable {N:Nat}{S:Nat→Prop}{L:List HP}{h:Aq}
theorem LD (hs:St S L h) {r:AZ}(E:H6 N=some r):
 CG Tryz.prog 26 #[] S h (λv S' h'=>Rd S' h' B0 v r∧St S' (L) h'):=by
 refine BC (l:=[]) 11 Tryz.func26 O Tryz.ntmps26 O λB=>?_
 rw[H6] at E
 refine AA (Am (Cg XE O hs λb1 h2 ad e4=>AX (kp [0] O) (AA (Am (AJ 1 (HX (cs:=[.int .i64 0,.int .i64 0]) ZS O O O (AE (Dw (cs:=[.int .i64 0,.int .i64 0]) Z8 O O O O O O O ad λb5 h6 ae e8=>Dw (cs:=[.int .i64 100,.int .i64 50]) E4 O O O O O O O ae λb9 au p af=>AJ 1 ?_))))))))
 have s:=p.bxos (r:=Bm) (l:=([(⟨0,0⟩:BI)]:List BI)) (.tail .head) ⟨_,_,O,⟨O,⟨(iq (n:=0) O),(iq (n:=0) O)⟩⟩,O⟩ (by simp [maxLen])
 obtain⟨av,t,ag,ah⟩:=s.pubs (.tail .head)
 have u:=t.bxos (r:=AN.int) (l:=([100,50]:List Int)) .head ⟨_,_,O,⟨O,(iq (n:=100) O)⟩,⟨_,_,O,⟨O,(iq (n:=50) O)⟩,O⟩⟩ (by simp [maxLen])
 obtain⟨aw,w,y,ai⟩:=u.pubs .head
 refine HX (cs:=[.string (ByteArray.mk #[112]),.int .i64 0,.int .i64 2,.int .i64 120,(.slice (some ⟨b5,0,none⟩) 1 1),(.slice (some ⟨b9,0,none⟩) 2 2),.int .i64 1,.int .i64 10,.int .i64 (-1),.int .i64 0,.int .i64 0,.slice none 0 0]) ZV O O O (AE (Cg Nv O w λax ay z d=>DD (vs:=[.string (ByteArray.mk #[112]),.int .i64 0,.int .i64 2,.int .i64 120,(.slice (some ⟨b5,0,none⟩) 1 1),(.slice (some ⟨b9,0,none⟩) 2 2),.int .i64 1,.int .i64 10,.int .i64 (-1),.int .i64 0,.int .i64 0,.slice none 0 0]) O O O O JZ O z .head O λaz A g=>AX (kp [1,0] O) (AA (Am (Dw (cs:=[.string (ByteArray.mk #[97]),.string (ByteArray.mk #[99])]) aB O O O O O O O A λC a0 b i=>AJ 1 (Cj (vs:=[.string (ByteArray.mk #[112]),.int .i64 0,.int .i64 2,.int .i64 120,(.slice (some ⟨b5,0,none⟩) 1 1),(.slice (some ⟨b9,0,none⟩) 2 2),.int .i64 1,.int .i64 10,.int .i64 (-1),.int .i64 0,.int .i64 0,.slice none 0 0]) A3 b O (mt mh) O O JZ O O (AE (Dw (cs:=[.string (ByteArray.mk #[112]),.int .i64 0,.int .i64 2,.int .i64 120,(.slice (some ⟨b5,0,none⟩) 1 1),(.slice (some ⟨b9,0,none⟩) 2 2),.int .i64 1,.int .i64 10,.int .i64 (-1),.int .i64 0,.int .i64 0,.slice none 0 0]) aA O O O O O O O b λD a1 F j=>Dw (cs:=[.int .i64 0,.int .i64 0,.int .i64 0]) E4 O O O O O O O F λG a2 H k=>AJ 1 ?_))))))))
 have I:=H.bxos (r:=AN.str) (l:=MJ) (.tail (.tail .head)) ⟨_,_,O,⟨O,(by decide)⟩,⟨_,_,O,⟨O,(by decide)⟩,O⟩⟩ (by simp [maxLen,MJ])
 obtain⟨a3,J,m,aj⟩:=I.pubs (.tail (.tail .head))
 have K:=y.trans (d.trans (g.trans (i.trans (j.trans (k.trans m)))))
 have ak:=ah.mono' K
 have M:=d.trans (g.trans (i.trans (j.trans (k.trans m))))
 have am:=ai.mono' M
 have Q:=J.bxos (r:=Br) (l:=MK) (.tail .head) ⟨_,_,O,⟨_,_,_,O,(by decide),(iq (n:=0) O),(iq (n:=2) O),(iq (n:=120) O),ak,am,(iq (n:=1) O),(iq (n:=10) O),(iq (n:=(-1)) O),(iq (n:=0) O),(iq (n:=0) O),(.inl ⟨O,O⟩)⟩,O⟩ (by simp [maxLen,MK])
 obtain⟨a4,U,V,an⟩:=Q.pubs (.tail .head)
 have W:=U.bxos (r:=AN.int) (l:=([0,0,0]:List Int)) .head ⟨_,_,O,⟨O,(iq (n:=0) O)⟩,⟨_,_,O,⟨O,(iq (n:=0) O)⟩,⟨_,_,O,⟨O,(iq (n:=0) O)⟩,O⟩⟩⟩ (by simp [maxLen])
 obtain⟨a5,X,o,ao⟩:=W.pubs .head
 refine HX (cs:=[.string (ByteArray.mk #[98]),(.slice (some ⟨C,0,none⟩) 2 2),.int .i64 0,(.slice (some ⟨D,0,none⟩) 1 1),.slice none 0 0,.slice none 0 0,.slice none 0 0,.slice none 0 0,.slice none 0 0,(.slice (some ⟨G,0,none⟩) 3 3),.int .i64 0]) ZX O O O (AE (DD (vs:=[.string (ByteArray.mk #[98]),(.slice (some ⟨C,0,none⟩) 2 2),.int .i64 0,(.slice (some ⟨D,0,none⟩) 1 1),.slice none 0 0,.slice none 0 0,.slice none 0 0,.slice none 0 0,.slice none 0 0,(.slice (some ⟨G,0,none⟩) 3 3),.int .i64 0]) O O O O Gp O X (.tail .head) O λa6 Y a=>AX (kp [0] O) (Ab (λaa ww hf hw=>?_))))
 have c:=Y.sel [1] 1 O
 have Z:=V.trans (o.trans a)
 have ap:=aj.mono' Z
 have aq:=an.mono' (o.trans a)
 have ar:=ao.mono' a
 have ab:=c.drop .head
 cases E
 have ac:=e4.trans (e8.trans (af.trans (ag.trans (y.trans (d.trans (g.trans (i.trans (j.trans (k.trans (m.trans (V.trans (o.trans a))))))))))))
 exact Jn hf O hw (Hn (V8 hf hw c O mh Gp O) Jm) O ac ⟨(B0.mk (x:=(⟨(ByteArray.mk #[98]),MJ,0,MK,[],[],[],[],[],([0,0,0]:List Int),0⟩:AZ)) (by decide) ap (iq (n:=0) O) aq (.inl ⟨O,O⟩) (.inl ⟨O,O⟩) (.inl ⟨O,O⟩) (.inl ⟨O,O⟩) (.inl ⟨O,O⟩) ar (iq (n:=0) O)),ab⟩
theorem DB (hs:St S L h) {a:Value}{c:(List Int)}(b:Sl S h AN.int a c) {r:(List Int)}(E:B9 N c=some r):
 CG Tryz.prog 39 #[a] S h (λv S' h'=>St S' (OS AN.int 3 v r::L) h'):=by
 refine BC (l:=[a]) 8 Tryz.func39 O Tryz.ntmps39 O λB=>?_
 rw[B9] at E
 rcases b.cases with ⟨rfl,rfl⟩|⟨o,m,rfl,b⟩
 ·have E1:(some ([]:List Int))=some r:=by simpa [chk,J8] using E
  refine AA (AG (.inl O) (AF O O (AD (kp [0] O) (AA (AA (AG (.inl O) (AB O O (TV O O O UG (AD (kp [4,0] O) (Vt O (AA (AG (.inl O) (AF O O (AD (kp [2] O) (Ab (λaa ww hf hw=>?_))))))))))))))))
  have d:=hs.nil AN.int 3
  cases E
  exact Dp hf hw O O (B8.refl S h) d
 refine AA (AG (.inl O) (AF O O (AD (kp [0] O) (AA (AA (AG (.inl O) (AB O O (V1 O O O UG (AD (kp [4,0] O) (Vu O (AT (AA (Am (V2 (r:=AN.int) E4 O O hs λs t g n=>AJ 1 (AB O O (AE ?_))))))))))))))))
 have p:=b.mono' n
 obtain⟨i,E⟩:=Ly E
 refine I8 (r:=AN.int) (l:=([]:List Int)) (xs:=c) O O E4 O (Sl.src p) O i O g (λ_=> .head) λu w j k=>AJ 1 (AF O O (AE (AX (kp [2] O) (Ab (λaa ww hf hw=>?_)))))
 cases E
 exact Dp hf hw O O (n.trans k) j
theorem Oh (hs:St S L h) {V:Value}{c:AZ}(ay:Rd S h B0 V c) {d:Int}(Z:AI d) {r:Al}(E:LB N c d=some r):
 CG Tryz.prog 15 #[V,.int .i64 d] S h (λv S' h'=>Rd S' h' CL v r∧St S' (L) h'):=by
 refine BC (l:=[V,.int .i64 d]) 47 Tryz.func15 O Tryz.ntmps15 O λB=>?_
 rw[LB] at E
 refine AA (Am (B1 O ay (λe=>by cases e) O hs λq1 S2 h3 ez e5 k6=>Cg Nw O ez λb7 h8 g ab=>AX (kp [4,2,1] O) (AA ?_)))
 obtain⟨cm,E⟩:=Ly E
 obtain⟨cn,E⟩:=Ly E
 obtain⟨co,E⟩:=Ly E
 obtain⟨cp,E⟩:=Ly E
 obtain⟨cq,E⟩:=Ly E
 refine Wr (m:=[(4,.pointer (some ⟨b7,0,none⟩)),(2,q1),(1,.int .i64 d)]) [23] [] [4,8,12,16,20,22] ⟨[(21,[8,12,16,20,24,28])],λi l=>match i,l with|21,[some a8,some e0,some e1,some e2,some e3,some e4]=>some (.agg ([a8]++[e0]++[e1]++[(.slice none 0 0:Value)]++[e2]++[e3]++[e4]).toArray)|_,_=>none⟩ (by kernel_rfl) (by kernel_rfl) (λi v hh=>match i with|0=>v= .int .i64 d∧AI d|1=>Pt S2 hh (AN.sl Br) v c.Places|2=>Sl S2 hh Br v c.Places|3=>v= .int .i64 (↑c.Places.length:Int)∧AI (↑c.Places.length:Int)|4=>T6 S2 h8 (AN.sl AN.int) 29 (List.replicate ((↑c.Places.length:Int):Int).toNat ([]:(List Int))) v hh|5=>Pt S2 hh (AN.sl Br) v c.Places|6=>Sl S2 hh Br v c.Places|7=>v= .int .i64 (↑c.Places.length:Int)∧AI (↑c.Places.length:Int)|8=>T6 S2 h8 AN.int 3 (List.replicate ((↑c.Places.length:Int):Int).toNat (0:Int)) v hh|9=>Pt S2 hh (AN.sl Bh) v c.Links|10=>Sl S2 hh Bh v c.Links|11=>v= .int .i64 (↑c.Links.length:Int)∧AI (↑c.Links.length:Int)|12=>T6 S2 h8 A4 69 (List.replicate ((↑c.Links.length:Int):Int).toNat ((⟨0,0,false,false⟩:Ak):Ak)) v hh|13=>Pt S2 hh (AN.sl AN.str) v c.Owners|14=>Sl S2 hh AN.str v c.Owners|15=>v= .int .i64 (↑c.Owners.length:Int)∧AI (↑c.Owners.length:Int)|16=>T6 S2 h8 AN.int 3 (List.replicate ((↑c.Owners.length:Int):Int).toNat (0:Int)) v hh|17=>Pt S2 hh (AN.sl AN.str) v c.Owners|18=>Sl S2 hh AN.str v c.Owners|19=>v= .int .i64 (↑c.Owners.length:Int)∧AI (↑c.Owners.length:Int)|20=>T6 S2 h8 AN.int 3 (List.replicate ((↑c.Owners.length:Int):Int).toNat (0:Int)) v hh|21=>True|22=>WC h8 36 [.int .i64 0,.slice none 0 0,.slice none 0 0,.slice none 0 0,.slice none 0 0,.slice none 0 0,.slice none 0 0] v hh|_=>False) [[],[],[(1,9)],[(2,10)],[(3,11)],[],[(5,13)],[(6,14)],[(7,15)],[],[(9,17)],[(10,18)],[(11,19)],[],[(13,21)],[(14,22)],[(15,23)],[],[(17,25)],[(18,26)],[(19,27)],[(0,8),(4,12),(8,16),(12,20),(16,24),(20,28)],[],[]] [(0,8),(4,12),(8,16),(12,20),(16,24),(20,28),(21,29),(22,5)] mo (by kernel_rfl) [4,2,1] O (by kernel_rfl) (by kernel_rfl) (by kernel_rfl) O (kp [4,2,1] O) (λi v h1 h2 o1 W hr=>?_) (by kernel_rfl) (L8 O (L8 O (L8 O (L8 O (L8 O (Wp (T:=36) O Yu)))))) ?_ ?_ ?_
 ·match i,hr with
   |0,hr=>exact hr
   |1,hr=>exact MB.mono hr (W.ext λb hb=>Nat.lt_of_lt_of_le (g.1 b hb) o1.siz)
   |2,hr=>exact Sl.mono' hr (W.ext λb hb=>Nat.lt_of_lt_of_le (g.1 b hb) o1.siz)
   |3,hr=>exact hr
   |4,hr=>exact hr.mono g.1 W
   |5,hr=>exact MB.mono hr (W.ext λb hb=>Nat.lt_of_lt_of_le (g.1 b hb) o1.siz)
   |6,hr=>exact Sl.mono' hr (W.ext λb hb=>Nat.lt_of_lt_of_le (g.1 b hb) o1.siz)
   |7,hr=>exact hr
   |8,hr=>exact hr.mono g.1 W
   |9,hr=>exact MB.mono hr (W.ext λb hb=>Nat.lt_of_lt_of_le (g.1 b hb) o1.siz)
   |10,hr=>exact Sl.mono' hr (W.ext λb hb=>Nat.lt_of_lt_of_le (g.1 b hb) o1.siz)
   |11,hr=>exact hr
   |12,hr=>exact hr.mono g.1 W
   |13,hr=>exact MB.mono hr (W.ext λb hb=>Nat.lt_of_lt_of_le (g.1 b hb) o1.siz)
   |14,hr=>exact Sl.mono' hr (W.ext λb hb=>Nat.lt_of_lt_of_le (g.1 b hb) o1.siz)
   |15,hr=>exact hr
   |16,hr=>exact hr.mono g.1 W
   |17,hr=>exact MB.mono hr (W.ext λb hb=>Nat.lt_of_lt_of_le (g.1 b hb) o1.siz)
   |18,hr=>exact Sl.mono' hr (W.ext λb hb=>Nat.lt_of_lt_of_le (g.1 b hb) o1.siz)
   |19,hr=>exact hr
   |20,hr=>exact hr.mono g.1 W
   |21,hr=>exact hr
   |22,hr=>exact hr.mono W
   |_+23,hr=>exact hr.elim
 ·exact trivial
 ·refine Dj.cons O O O ?_ ?_
  ·intro mq hh o
   have hsN:=o.st g
   exact AJ 1 (AB O O (AE (AK (BA.refl _) ⟨O,Z⟩)))
  refine Dj.cons O O O ?_ ?_
  ·intro mq hh o
   have hsN:=o.st g
   refine AJ 1 ?_
   have e6:=k6.mono (ab.trans (o.ext g.1))
   exact Ac O e6 BS DK O λhq e7=>AE (AK (BA.refl _) e7)
  refine Dj.cons O O O ?_ ?_
  ·intro mq hh o
   intro e8 bo
   have hsN:=o.st g
   have bo:Pt _ _ (AN.sl Br) e8 c.Places:=bo
   exact AJ 1 (Ah A3 hsN.1 O bo F9 O λht e9=>AE (AK (BA.refl _) e9))
  refine Dj.cons O O O ?_ ?_
  ·intro mq hh o
   intro fb bp
   have hsN:=o.st g
   have bp:Sl _ _ Br fb c.Places:=bp
   exact AJ 1 (Ag O bp FA O λfc=>AE (AK (BA.refl _) ⟨O,(JE fc)⟩))
  refine MA O O O ?_ ?_
  ·intro mq hh o
   intro hu fd
   have hsN:=o.st g
   obtain⟨rfl,hv⟩:=fd
   exact PF (r:=(AN.sl AN.int)) (zx:=[]) Ve O ⟨_,O,.inl ⟨O,O⟩⟩ O O cm O O o g.1 λv' h' o' r' f'=>AK o' ⟨r',f'⟩
  refine Dj.cons O O O ?_ ?_
  ·intro mq hh o
   have hsN:=o.st g
   refine AJ 1 ?_
   have fe:=k6.mono (ab.trans (o.ext g.1))
   exact Ac O fe BS DK O λhx ff=>AE (AK (BA.refl _) ff)
  refine Dj.cons O O O ?_ ?_
  ·intro mq hh o
   intro fg bq
   have hsN:=o.st g
   have bq:Pt _ _ (AN.sl Br) fg c.Places:=bq
   exact AJ 1 (Ah A3 hsN.1 O bq F9 O λhy fh=>AE (AK (BA.refl _) fh))
  refine Dj.cons O O O ?_ ?_
  ·intro mq hh o
   intro fi br
   have hsN:=o.st g
   have br:Sl _ _ Br fi c.Places:=br
   exact AJ 1 (Ag O br FA O λfj=>AE (AK (BA.refl _) ⟨O,(JE fj)⟩))
  refine MA O O O ?_ ?_
  ·intro mq hh o
   intro hz fk
   have hsN:=o.st g
   obtain⟨rfl,h0⟩:=fk
   exact PF (r:=AN.int) (zx:=0) E4 O ⟨O,by unfold AI;omega⟩ O O cn O O o g.1 λv' h' o' r' f'=>AK o' ⟨r',f'⟩
  refine Dj.cons O O O ?_ ?_
  ·intro mq hh o
   have hsN:=o.st g
   refine AJ 1 ?_
   have fl:=k6.mono (ab.trans (o.ext g.1))
   exact Ac O fl DU Ft O λh4 fm=>AE (AK (BA.refl _) fm)
  refine Dj.cons O O O ?_ ?_
  ·intro mq hh o
   intro fn bs
   have hsN:=o.st g
   have bs:Pt _ _ (AN.sl Bh) fn c.Links:=bs
   exact AJ 1 (Ah A3 hsN.1 O bs Ir O λh5 fo=>AE (AK (BA.refl _) fo))
  refine Dj.cons O O O ?_ ?_
  ·intro mq hh o
   intro fp bt
   have hsN:=o.st g
   have bt:Sl _ _ Bh fp c.Links:=bt
   exact AJ 1 (Ag O bt G4 O λfq=>AE (AK (BA.refl _) ⟨O,(JE fq)⟩))
  refine MA O O O ?_ ?_
  ·intro mq hh o
   intro h6 fr
   have hsN:=o.st g
   obtain⟨rfl,h7⟩:=fr
   exact PF (r:=A4) (zx:=(⟨0,0,false,false⟩:Ak)) Vd O ⟨O,by unfold Ak.ok AI;simp [IntKind.has,IntKind.min,IntKind.max,IntKind.bits,IntKind.signed]⟩ O O co O O o g.1 λv' h' o' r' f'=>AK o' ⟨r',f'⟩
  refine Dj.cons O O O ?_ ?_
  ·intro mq hh o
   have hsN:=o.st g
   refine AJ 1 ?_
   have fs:=k6.mono (ab.trans (o.ext g.1))
   exact Ac O fs EB HS O λh9 ft=>AE (AK (BA.refl _) ft)
  refine Dj.cons O O O ?_ ?_
  ·intro mq hh o
   intro fu bu
   have hsN:=o.st g
   have bu:Pt _ _ (AN.sl AN.str) fu c.Owners:=bu
   exact AJ 1 (Ah A3 hsN.1 O bu J6 O λia fv=>AE (AK (BA.refl _) fv))
  refine Dj.cons O O O ?_ ?_
  ·intro mq hh o
   intro fw af
   have hsN:=o.st g
   have af:Sl _ _ AN.str fw c.Owners:=af
   exact AJ 1 (Ag O af Js O λcr=>AE (AK (BA.refl _) ⟨O,(JE cr)⟩))
  refine MA O O O ?_ ?_
  ·intro mq hh o
   intro fy ct
   have hsN:=o.st g
   obtain⟨rfl,f0⟩:=ct
   exact PF (r:=AN.int) (zx:=0) E4 O ⟨O,by unfold AI;omega⟩ O O cp O O o g.1 λv' h' o' r' f'=>AK o' ⟨r',f'⟩
  refine Dj.cons O O O ?_ ?_
  ·intro mq hh o
   have hsN:=o.st g
   refine AJ 1 ?_
   have cu:=k6.mono (ab.trans (o.ext g.1))
   exact Ac O cu EB HS O λf1 cv=>AE (AK (BA.refl _) cv)
  refine Dj.cons O O O ?_ ?_
  ·intro mq hh o
   intro cw ag
   have hsN:=o.st g
   have ag:Pt _ _ (AN.sl AN.str) cw c.Owners:=ag
   exact AJ 1 (Ah A3 hsN.1 O ag J6 O λf2 cx=>AE (AK (BA.refl _) cx))
  refine Dj.cons O O O ?_ ?_
  ·intro mq hh o
   intro cy ah
   have hsN:=o.st g
   have ah:Sl _ _ AN.str cy c.Owners:=ah
   exact AJ 1 (Ag O ah Js O λcz=>AE (AK (BA.refl _) ⟨O,(JE cz)⟩))
  refine MA O O O ?_ ?_
  ·intro mq hh o
   intro f3 c0
   have hsN:=o.st g
   obtain⟨rfl,f4⟩:=c0
   exact PF (r:=AN.int) (zx:=0) E4 O ⟨O,by unfold AI;omega⟩ O O cq O O o g.1 λv' h' o' r' f'=>AK o' ⟨r',f'⟩
  refine Dj.z [8,12,16,20,24,28] O O O (by kernel_rfl) ?_ ?_
  ·intro mq hh o
   intro f5 c1 f6 a4 f7 a5 f8 a6 f9 a7 ga a9
   have hsN:=o.st g
   obtain⟨rfl,gb⟩:=c1
   obtain⟨c2,az,rfl,a4⟩:=a4
   obtain⟨c3,a0,rfl,a5⟩:=a5
   obtain⟨c4,a1,rfl,a6⟩:=a6
   obtain⟨c5,a2,rfl,a7⟩:=a7
   obtain⟨c6,a3,rfl,a9⟩:=a9
   exact AJ 1 (HX (cs:=[.int .i64 d,(.slice (some ⟨c2,0,none⟩) (List.replicate ((↑c.Places.length:Int):Int).toNat ([]:(List Int))).length az),(.slice (some ⟨c3,0,none⟩) (List.replicate ((↑c.Places.length:Int):Int).toNat (0:Int)).length a0),.slice none 0 0,(.slice (some ⟨c4,0,none⟩) (List.replicate ((↑c.Links.length:Int):Int).toNat ((⟨0,0,false,false⟩:Ak):Ak)).length a1),(.slice (some ⟨c5,0,none⟩) (List.replicate ((↑c.Owners.length:Int):Int).toNat (0:Int)).length a2),(.slice (some ⟨c6,0,none⟩) (List.replicate ((↑c.Owners.length:Int):Int).toNat (0:Int)).length a3)]) ZW O O O (AE (AK (BA.refl _) ⟨trivial,O,O⟩)))
  exact Dj.al O Nw O O (Dj.skip (by kernel_rfl) (trivial))
 intro gc ai gd c7 ge c8 gf c9 gg da gh db gi dc dd gj gk de j bv
 obtain⟨H,u,rfl,df,dg,dh⟩:=c8
 obtain⟨I,A,rfl,di,dj,dk⟩:=c9
 obtain⟨J,C,rfl,dl,dm,dn⟩:=da
 obtain⟨K,D,rfl,dp,dq,dr⟩:=db
 obtain⟨M,F,rfl,ds,dt,du⟩:=dc
 obtain⟨Q,rfl,dv,dw,dx⟩:=de
 have bw:=(Rx.cons (Kz (Kz (Kz (Kz (Kz (Rx.nil g ai) df dg dh List.not_mem_nil) di dj dk (SH (j.of_ (s:=16) (s':=12) (by kernel_rfl) O O O O) List.not_mem_nil)) dl dm dn (SH (j.of_ (s:=20) (s':=16) (by kernel_rfl) O O O O) (SH (j.of_ (s:=20) (s':=12) (by kernel_rfl) O O O O) List.not_mem_nil))) dp dq dr (SH (j.of_ (s:=24) (s':=20) (by kernel_rfl) O O O O) (SH (j.of_ (s:=24) (s':=16) (by kernel_rfl) O O O O) (SH (j.of_ (s:=24) (s':=12) (by kernel_rfl) O O O O) List.not_mem_nil)))) ds dt du (SH (j.of_ (s:=28) (s':=24) (by kernel_rfl) O O O O) (SH (j.of_ (s:=28) (s':=20) (by kernel_rfl) O O O O) (SH (j.of_ (s:=28) (s':=16) (by kernel_rfl) O O O O) (SH (j.of_ (s:=28) (s':=12) (by kernel_rfl) O O O O) List.not_mem_nil))))) dv dw dx (SH (j.of_ (s:=5) (s':=28) (by kernel_rfl) O O O O) (SH (j.of_ (s:=5) (s':=24) (by kernel_rfl) O O O O) (SH (j.of_ (s:=5) (s':=20) (by kernel_rfl) O O O O) (SH (j.of_ (s:=5) (s':=16) (by kernel_rfl) O O O O) (SH (j.of_ (s:=5) (s':=12) (by kernel_rfl) O O O O) List.not_mem_nil)))))).st
 obtain⟨rfl,dy⟩:=c7
 obtain rfl:dd=Value.agg #[.int .i64 d,(.slice (some ⟨H,0,none⟩) (List.replicate ((↑c.Places.length:Int):Int).toNat ([]:(List Int))).length u),(.slice (some ⟨I,0,none⟩) (List.replicate ((↑c.Places.length:Int):Int).toNat (0:Int)).length A),.slice none 0 0,(.slice (some ⟨J,0,none⟩) (List.replicate ((↑c.Links.length:Int):Int).toNat ((⟨0,0,false,false⟩:Ak):Ak)).length C),(.slice (some ⟨K,0,none⟩) (List.replicate ((↑c.Owners.length:Int):Int).toNat (0:Int)).length D),(.slice (some ⟨M,0,none⟩) (List.replicate ((↑c.Owners.length:Int):Int).toNat (0:Int)).length F)]:=(Option.some.inj (bv _ List.mem_cons_self 29 _ (by kernel_rfl) O O)).symm
 refine DD (vs:=[.int .i64 d,(.slice (some ⟨H,0,none⟩) (List.replicate ((↑c.Places.length:Int):Int).toNat ([]:(List Int))).length u),(.slice (some ⟨I,0,none⟩) (List.replicate ((↑c.Places.length:Int):Int).toNat (0:Int)).length A),.slice none 0 0,(.slice (some ⟨J,0,none⟩) (List.replicate ((↑c.Links.length:Int):Int).toNat ((⟨0,0,false,false⟩:Ak):Ak)).length C),(.slice (some ⟨K,0,none⟩) (List.replicate ((↑c.Owners.length:Int):Int).toNat (0:Int)).length D),(.slice (some ⟨M,0,none⟩) (List.replicate ((↑c.Owners.length:Int):Int).toNat (0:Int)).length F)]) O O O O Gn O bw .head O λaj ak ba=>AX (kp [5,4,2] O) (AA (AA (AG (.inl O) ?_)))
 have bx:=ab.trans ((ai.ext g.1).trans ba)
 have dz:=k6.mono bx
 refine Ac O dz BS DK O λgl d0=>Ah A3 ak.1 O d0 F9 O λbb bc=>Ag O bc FA O λgm=>AB O O (AD (kp [33,32,31,5,4] O) (Aj (λa w=>∃(ad:List (List Int)),IV B S2 aj (47,[]) a w [(5,.pointer (some ⟨Q,0,none⟩)),(4,.pointer (some ⟨b7,0,none⟩))] (Bx Q 36 [.int .i64 d,(.slice (some ⟨H,0,none⟩) (List.replicate ((↑c.Places.length:Int):Int).toNat ([]:(List Int))).length u),(.slice (some ⟨I,0,none⟩) (List.replicate ((↑c.Places.length:Int):Int).toNat (0:Int)).length A),.slice none 0 0,(.slice (some ⟨J,0,none⟩) (List.replicate ((↑c.Links.length:Int):Int).toNat ((⟨0,0,false,false⟩:Ak):Ak)).length C),(.slice (some ⟨K,0,none⟩) (List.replicate ((↑c.Owners.length:Int):Int).toNat (0:Int)).length D),(.slice (some ⟨M,0,none⟩) (List.replicate ((↑c.Owners.length:Int):Int).toNat (0:Int)).length F)]::OS AN.int 3 (.slice (some ⟨M,0,none⟩) (List.replicate ((↑c.Owners.length:Int):Int).toNat (0:Int)).length F) (List.replicate ((↑c.Owners.length:Int):Int).toNat (0:Int))::OS AN.int 3 (.slice (some ⟨K,0,none⟩) (List.replicate ((↑c.Owners.length:Int):Int).toNat (0:Int)).length D) (List.replicate ((↑c.Owners.length:Int):Int).toNat (0:Int))::OS A4 69 (.slice (some ⟨J,0,none⟩) (List.replicate ((↑c.Links.length:Int):Int).toNat ((⟨0,0,false,false⟩:Ak):Ak)).length C) (List.replicate ((↑c.Links.length:Int):Int).toNat ((⟨0,0,false,false⟩:Ak):Ak))::OS AN.int 3 (.slice (some ⟨I,0,none⟩) (List.replicate ((↑c.Places.length:Int):Int).toNat (0:Int)).length A) (List.replicate ((↑c.Places.length:Int):Int).toNat (0:Int))::OS (AN.sl AN.int) 29 (.slice (some ⟨H,0,none⟩) (List.replicate ((↑c.Places.length:Int):Int).toNat ([]:(List Int))).length u) ad::Bx b7 36 [.int .i64 0,.slice none 0 0,.slice none 0 0,.slice none 0 0,.slice none 0 0,.slice none 0 0,.slice none 0 0]::L) λ_ _=>Ii N c d ad=some r) ?_ ?_))
 ·refine Ay (λn1=>λa w=>∃(G:Int) (U:List (List Int)),IV B S2 aj (47,[]) a w [(32,.int .i64 (↑c.Places.length:Int)),(31,bb),(5,.pointer (some ⟨Q,0,none⟩)),(4,.pointer (some ⟨b7,0,none⟩)),(33,.int .i64 G)] (Bx Q 36 [.int .i64 d,(.slice (some ⟨H,0,none⟩) (List.replicate ((↑c.Places.length:Int):Int).toNat ([]:(List Int))).length u),(.slice (some ⟨I,0,none⟩) (List.replicate ((↑c.Places.length:Int):Int).toNat (0:Int)).length A),.slice none 0 0,(.slice (some ⟨J,0,none⟩) (List.replicate ((↑c.Links.length:Int):Int).toNat ((⟨0,0,false,false⟩:Ak):Ak)).length C),(.slice (some ⟨K,0,none⟩) (List.replicate ((↑c.Owners.length:Int):Int).toNat (0:Int)).length D),(.slice (some ⟨M,0,none⟩) (List.replicate ((↑c.Owners.length:Int):Int).toNat (0:Int)).length F)]::OS AN.int 3 (.slice (some ⟨M,0,none⟩) (List.replicate ((↑c.Owners.length:Int):Int).toNat (0:Int)).length F) (List.replicate ((↑c.Owners.length:Int):Int).toNat (0:Int))::OS AN.int 3 (.slice (some ⟨K,0,none⟩) (List.replicate ((↑c.Owners.length:Int):Int).toNat (0:Int)).length D) (List.replicate ((↑c.Owners.length:Int):Int).toNat (0:Int))::OS A4 69 (.slice (some ⟨J,0,none⟩) (List.replicate ((↑c.Links.length:Int):Int).toNat ((⟨0,0,false,false⟩:Ak):Ak)).length C) (List.replicate ((↑c.Links.length:Int):Int).toNat ((⟨0,0,false,false⟩:Ak):Ak))::OS AN.int 3 (.slice (some ⟨I,0,none⟩) (List.replicate ((↑c.Places.length:Int):Int).toNat (0:Int)).length A) (List.replicate ((↑c.Places.length:Int):Int).toNat (0:Int))::OS (AN.sl AN.int) 29 (.slice (some ⟨H,0,none⟩) (List.replicate ((↑c.Places.length:Int):Int).toNat ([]:(List Int))).length u) U::Bx b7 36 [.int .i64 0,.slice none 0 0,.slice none 0 0,.slice none 0 0,.slice none 0 0,.slice none 0 0,.slice none 0 0]::L) λ_ _=>AI G∧He N c (Ii N c d) n1 G U=some r) N ?_ ?_ ?_
  ·intro aa ww hf hw
   exact⟨0,(List.replicate ((↑c.Places.length:Int):Int).toNat ([]:(List Int))),_,_,hf.sub (kp [32,31,5,4,33] O),hw,ak,(B8.refl S2 aj),(iq (n:=0) O),E⟩
  ·rintro aa ww ⟨_,_,_,_,_,_,_,_,_,E⟩
   rw[He] at E;cases E
  rintro n1 aa ww ⟨G,U,am,gn,hf,hw,ac,an,d1,E⟩
  refine Ad ?_ hf hw
  clear hf hw ww aa
  rw[He] at E
  refine AA (AG (.inl O) (A0 O O O (AD (kp [34,32,31,5,4,33] O) (AA (AW O (λao=>?_) (λao=>?_))))))
  ·have E:=BU ao E
   refine AT (AA (A6 (AA (Am (AJ 3 (AB O O ?_))))))
   have d2:=bc.mono' an
   obtain⟨t,bz,E⟩:=bd E
   refine A8 O O d2 FA bz O λgp d3=>Bw A3 ac.1 O d3 JZ (λe=>by cases e) O λgq d4=>AE (Cg Nv O ac λbe gr b0 bf=>AJ 1 (AF O O (AE ?_)))
   have d5:=d4.mono bf
   obtain⟨bg,bh,bi,rfl,gs,gt,gu,gv,d6,bj,gw,gx,gy,gz,g0,d7⟩:=Br.ex d5
   refine Ge (vs:=[.string t.Name,.int .i64 t.Kind,.int .i64 t.Office,.int .i64 t.Cap,bg,bh,.int .i64 t.Num,.int .i64 t.Den,.int .i64 t.Down,.int .i64 t.Delay,.int .i64 t.Floor,bi]) (cs':=[.string t.Name,.int .i64 t.Kind,.int .i64 t.Office,.int .i64 t.Cap,bg,bh,.int .i64 t.Num,.int .i64 t.Den,.int .i64 t.Down,.int .i64 t.Delay,.int .i64 t.Floor,bi]) O O O (AH O (AH O (AH O (AH O (AH d6.one (AH bj.one (AH O (AH O (AH O (AH O (AH O (AH d7.one D2)))))))))))) JZ O b0 .head O O λbk y bl=>AX (kp [6,7,32,31,5,4,33] O) ?_
   obtain⟨ap,b1,E⟩:=bd E
   obtain⟨g1,b2,E⟩:=bd E
   refine Mk (m:=[(6,.int .i64 G),(7,.pointer (some ⟨be,0,none⟩)),(32,.int .i64 (↑c.Places.length:Int)),(31,bb),(5,.pointer (some ⟨Q,0,none⟩)),(4,.pointer (some ⟨b7,0,none⟩)),(33,.int .i64 G)]) 7 (λi v hh=>match i with|0=>v= .pointer (some ⟨Q,1,none⟩)|1=>v=(.slice (some ⟨H,0,none⟩) (List.replicate ((↑c.Places.length:Int):Int).toNat ([]:(List Int))).length u)|2=>v= .int .i64 G∧AI G|3=>v= .pointer (some ⟨be,5,none⟩)|4=>Sl am hh AN.int v t.Start|5=>Sl (SN am bk hh) hh AN.int v ap|6=>EP (.slice (some ⟨H,0,none⟩) (List.replicate ((↑c.Places.length:Int):Int).toNat ([]:(List Int))).length u) (G.toNat*((AN.sl AN.int)).sz+0) v|_=>False) [[],[(0,38)],[],[],[(3,41)],[(4,42)],[(1,39),(2,40)]] [(5,43),(6,44)] mo (by kernel_rfl) [6,7,32,31,5,4,33] O (by kernel_rfl) (by kernel_rfl) (by kernel_rfl) (kp [6,7,32,31,5,4,33] O) (λi v h1 h2 o1 W hr=>?_) ?_ ?_
   ·match i,hr with
     |0,hr=>exact hr
     |1,hr=>exact hr
     |2,hr=>exact hr
     |3,hr=>exact hr
     |4,hr=>exact Sl.mono' hr (W.ext λb hb=>Nat.lt_of_lt_of_le (y.1 b hb) o1.siz)
     |5,hr=>exact Sl.mono' hr (SN.mono y.1 o1 W)
     |6,hr=>exact hr
     |_+7,hr=>exact hr.elim
   ·refine Ax.cons O ?_ ?_
    ·intro mq hh o
     have hsN:=o.st y
     exact AJ 1 (AL O D3 O (AE (AK (BA.refl _) O)))
    refine Ax.cons O ?_ ?_
    ·intro mq hh o
     intro g2 d8
     have hsN:=o.st y
     cases d8
     exact AJ 1 (AS A3 hsN O (mt mh) O G3 O (AE (AK (BA.refl _) O)))
    refine Ax.cons O ?_ ?_
    ·intro mq hh o
     have hsN:=o.st y
     exact AJ 1 (AB O O (AE (AK (BA.refl _) ⟨O,d1⟩)))
    refine Ax.cons O ?_ ?_
    ·intro mq hh o
     have hsN:=o.st y
     exact AJ 1 (AL O Qb O (AE (AK (BA.refl _) O)))
    refine Ax.cons O ?_ ?_
    ·intro mq hh o
     intro g3 d9
     have hsN:=o.st y
     cases d9
     refine AJ 1 (AS A3 hsN O mh O BY O (AE ?_))
     have ea:=bj.mono' (bl.trans (o.ext y.1))
     exact AK (BA.refl _) ea
    refine Ax.cons O ?_ ?_
    ·intro mq hh o
     intro eb X
     have hsN:=SN.st y o
     have X:=Sl.mono' (S':=(SN am bk hh)) X ⟨λb hb=> .inl hb,λ_ _=>rfl,Nat.le_refl _⟩
     have X:Sl _ _ AN.int eb t.Start:=X
     have hsF:=hsN.fz
     refine Bb O O O PB O hsF (DB (St.all _) (X.mono (λb hb=>hsF.1 b hb) (λ_ _=>rfl)) b1) λg4 g5 g6 fx ec ed p=>?_
     have b3:=p
     have aq:=hsF.join ed b3 ⟨OS.flat (λ{_ _ _ _ _ _} k=>k),trivial⟩
     simp only[List.cons_append,List.nil_append] at aq
     obtain⟨g7,b4,ee,ef⟩:=aq.pubs .head
     have ar:=Fz.done o (ec.trans ee) b4
     exact AK ar.1 (Sl.mono' ef ar.2)
    refine Ax.cons O ?_ ?_
    ·intro mq hh o
     intro g8 eg g9 eh
     have hsN:=o.st y
     cases eg
     obtain⟨rfl,ha⟩:=eh
     exact AJ 1 (A5 hsN (mt (mt (mt (mt (mt (mt mh)))))) O O E8 b2 O λhc b5=>AE (AK (BA.refl _) b5))
    exact trivial
   intro hd bm ei au he ej
   have b6:=SN.st y bm
   have au:Sl _ _ AN.int ei ap:=au
   obtain⟨ek,b8,E⟩:=bd E
   refine Ef (r:=(AN.sl AN.int)) (l:=U) (i:=G) (x:=ek) O O (MT au) ej b8 LG.id BY (λ_=>rfl) b6 (.tail (.tail (.tail (.tail (.tail (.tail .head)))))) λhg b9 el=>AX (kp [32,31,5,4,33] O) (BJ (AG (.inl O) (Ap O O O (AB O O (AD (kp [33,32,31,5,4] O) (WF.nil (λaa ww hf hw=>?_)))))))
   have ca:=b9.sel [1,1,1,1,1,1,1] 1 O
   have cb:=an.trans (bf.trans (bl.trans ((SN.ext y.1 bm).trans el)))
   exact⟨(BD (G+1)),(upd U G ap),_,_,hf.sub (kp [32,31,5,4,33] O),hw,ca,cb,(BG _),E⟩
  have E:=BV ao E
  refine BB O (λaa ww hf hw=>?_)
  exact⟨U,_,_,hf.sub (kp [5,4] O),hw,ac,an,E⟩
 rintro aa ww ⟨ad,hi,hj,hf,hw,av,em,E⟩
 refine Ad ?_ hf hw
 clear hf hw ww aa
 rw[Ii] at E
 refine AA (Am (AJ 1 (Cj (vs:=[.int .i64 d,(.slice (some ⟨H,0,none⟩) (List.replicate ((↑c.Places.length:Int):Int).toNat ([]:(List Int))).length u),(.slice (some ⟨I,0,none⟩) (List.replicate ((↑c.Places.length:Int):Int).toNat (0:Int)).length A),.slice none 0 0,(.slice (some ⟨J,0,none⟩) (List.replicate ((↑c.Links.length:Int):Int).toNat ((⟨0,0,false,false⟩:Ak):Ak)).length C),(.slice (some ⟨K,0,none⟩) (List.replicate ((↑c.Owners.length:Int):Int).toNat (0:Int)).length D),(.slice (some ⟨M,0,none⟩) (List.replicate ((↑c.Owners.length:Int):Int).toNat (0:Int)).length F)]) A3 av O mh O O Gn O O (AE (DD (vs:=[.int .i64 d,(.slice (some ⟨H,0,none⟩) (List.replicate ((↑c.Places.length:Int):Int).toNat ([]:(List Int))).length u),(.slice (some ⟨I,0,none⟩) (List.replicate ((↑c.Places.length:Int):Int).toNat (0:Int)).length A),.slice none 0 0,(.slice (some ⟨J,0,none⟩) (List.replicate ((↑c.Links.length:Int):Int).toNat ((⟨0,0,false,false⟩:Ak):Ak)).length C),(.slice (some ⟨K,0,none⟩) (List.replicate ((↑c.Owners.length:Int):Int).toNat (0:Int)).length D),(.slice (some ⟨M,0,none⟩) (List.replicate ((↑c.Owners.length:Int):Int).toNat (0:Int)).length F)]) O O O O Gn O av (.tail (.tail (.tail (.tail (.tail (.tail .head)))))) O λhk cc en=>AX (kp [4] O) (Ab (λaa ww hf hw=>?_)))))))
 obtain⟨hl,cd,eo,ep⟩:=cc.pubs (.tail (.tail (.tail (.tail (.tail .head)))))
 obtain⟨hm,ce,bn,eq⟩:=cd.pubs (.tail (.tail (.tail (.tail .head))))
 obtain⟨hn,cf,aw,er⟩:=ce.pubs (.tail (.tail (.tail .head)))
 obtain⟨ho,cg,ae,es⟩:=cf.pubs (.tail (.tail .head))
 obtain⟨hp,ch,Y,et⟩:=cg.pubs (.tail .head)
 have ax:=ch.sel [1] 1 O
 have ci:=bn.trans (aw.trans (ae.trans Y))
 have eu:=ep.mono' ci
 have cj:=aw.trans (ae.trans Y)
 have ev:=eq.mono' cj
 have ew:=er.mono' (ae.trans Y)
 have ey:=es.mono' Y
 have ck:=ax.drop .head
 cases E
 have cl:=e5.trans (ab.trans ((ai.ext g.1).trans (ba.trans (em.trans (en.trans (eo.trans (bn.trans (aw.trans (ae.trans Y)))))))))
 exact Jn hf O hw (Hn (V8 hf hw ax O mh Gn O) Jm) O cl ⟨(CL.mk (x:=(⟨d,ad,(List.replicate ((↑c.Places.length:Int):Int).toNat (0:Int)),[],(List.replicate ((↑c.Links.length:Int):Int).toNat ((⟨0,0,false,false⟩:Ak):Ak)),(List.replicate ((↑c.Owners.length:Int):Int).toNat (0:Int)),(List.replicate ((↑c.Owners.length:Int):Int).toNat (0:Int))⟩:Al)) dy eu ev (.inl ⟨O,O⟩) ew ey et),ck⟩
theorem Bl (hs:St S L h) {c:Int}(i:AI c) {b:Int}(g:AI b) {a:Int}(d:AI a) {r:Bool}(E:B6 N c b a=some r):
 CG Tryz.prog 68 #[.int .i64 c,.int .i64 b,.int .i64 a] S h (λv S' h'=>v= .bool r∧St S' (L) h'):=by
 refine BC (l:=[.int .i64 c,.int .i64 b,.int .i64 a]) 15 Tryz.func68 O Tryz.ntmps68 O λB=>?_
 rw[B6] at E
 refine AA (AG (.inl O) (AF O O (AD (kp [0,1,2] O) (AA (AG (.inl O) (AB O O (AB O O (HW O O O (AB O O (AV 4 14 (.bool ((decide (b≤c))&&(decide (c≤a)))) ?_ ?_))))))))))
 ·cases j:(decide (b≤c))
  ·exact Aa O O
  exact AC O O O (AB O O (AC O O O (AB O O (AC O O O (HW O O O (AO O O O (AU O)))))))
 refine AF O O (AD (kp [6] O) (Ab (λaa ww hf hw=>?_)))
 cases E
 exact Dp hf hw O O (B8.refl S h) ⟨O,hs⟩
theorem Bp (hs:St S L h) {a:Int}(b:AI a) {r:Bool}(E:Bu N a=some r):
 CG Tryz.prog 69 #[.int .i64 a] S h (λv S' h'=>v= .bool r∧St S' (L) h'):=by
 refine BC (l:=[.int .i64 a]) 5 Tryz.func69 O Tryz.ntmps69 O λB=>?_
 rw[Bu] at E
 refine AA (AG (.inl O) (AF O O (AD (kp [0] O) (AA (Bn (.inl O) hs (AB O O ?_))))))
 obtain⟨i,c,E⟩:=bd E
 refine Aw O O O HN O (λh' o=>Bl (St.all h') b (iq (n:=0) O) (iq (n:=1125899906842624) O) c) (AF O O (BK (kp [2] O) λj d g=>Ab (λaa ww hf hw=>?_)))
 cases E
 exact Dp hf hw O O g ⟨O,d⟩
theorem Md (hs:St S L h) {p:Value}{b:AZ}(Q:Rd S h B0 p b) {r:Bool}(E:G0 N b=some r):
 CG Tryz.prog 47 #[p] S h (λv S' h'=>v= .bool r∧St S' (L) h'):=by
 refine BC (l:=[p]) 109 Tryz.func47 O Tryz.ntmps47 O λB=>?_
 rw[G0] at E
 refine AA (Am (B1 O Q (λe=>by cases e) O hs λq1 S2 h3 m e5 y=>AJ 1 (AF O O (AE (AX (kp [1] O) (AA (AA (Bn (.inl O) m (Ac O y AZ.f_Name Qg O λq7 k8=>Qt BZ m.1 O k8 PR O λr9=>NW O PQ O (CE O O O (AB O O ?_)))))))))))
 obtain⟨aj,g,E⟩:=bd E
 refine AV 6 17 (.bool aj) ?_ ?_
 ·cases ak:(decide (500<(↑b.Name.size:Int)))
  ·have g:=BV ak g
   refine AC O O O (Ac O y EB HS O λb9 a2=>AC O O O (Ah BZ m.1 O a2 J6 O λca a3=>AC O O O (Ag O a3 Js O λa4=>AC O O O ?_)))
   obtain⟨cb,al,g⟩:=bd g
   refine Aw O O O HN O (λh' o=>Bl (St.all h') (JE a4) (iq (n:=1) O) (iq (n:=16) O) al) (AC O O O (Bv O O (AO O O O ?_)))
   cases g
   exact AU O
  have g:=BU ak g
  cases g
  exact Aa O O
 refine AB O O ?_
 obtain⟨am,i,E⟩:=bd E
 refine AV 5 23 (.bool am) ?_ ?_
 ·cases an:aj
  ·have i:=BV an i
   refine AC O O O (Ac O y KM Qf O λcc a5=>AC O O O (Af BZ m.1 O a5 Ae O λa6=>AC O O O ?_))
   obtain⟨cd,ao,i⟩:=bd i
   refine Aw O O O HN O (λh' o=>Bl (St.all h') a6 (iq (n:=0) O) (iq (n:=64) O) ao) (AC O O O (Bv O O (AO O O O ?_)))
   cases i
   exact AU O
  have i:=BU an i
  cases i
  exact Aa O O
 refine AB O O ?_
 obtain⟨d,j,E⟩:=bd E
 refine AV 6 30 (.bool d) ?_ ?_
 ·cases ap:am
  ·have j:=BV ap j
   refine AC O O O (Ac O y BS DK O λce a7=>AC O O O (Ah BZ m.1 O a7 F9 O λcf a8=>AC O O O (Ag O a8 FA O λa9=>AC O O O ?_)))
   obtain⟨cg,aq,j⟩:=bd j
   refine Aw O O O HN O (λh' o=>Bl (St.all h') (JE a9) (iq (n:=1) O) (iq (n:=64) O) aq) (AC O O O (Bv O O (AO O O O ?_)))
   cases j
   exact AU O
  have j:=BU ap j
  cases j
  exact Aa O O
 refine AB O O (AV 5 36 (.bool (d||(decide (96<(↑b.Links.length:Int))))) ?_ ?_)
 ·cases ch:d
  ·exact AC O O O (Ac O y DU Ft O λci ba=>AC O O O (Ah BZ m.1 O ba Ir O λcj bb=>AC O O O (Ag O bb G4 O λck=>AC O O O (CE O O O (AO O O O (AU O))))))
  exact Aa O O
 refine AB O O (AV 5 42 (.bool ((d||(decide (96<(↑b.Links.length:Int))))||(decide (40<(↑b.Towns.length:Int))))) ?_ ?_)
 ·cases cl:(d||(decide (96<(↑b.Links.length:Int))))
  ·exact AC O O O (Ac O y IC NR O λcm bc=>AC O O O (Ah BZ m.1 O bc Q6 O λcn be=>AC O O O (Ag O be Ok O λco=>AC O O O (CE O O O (AO O O O (AU O))))))
  exact Aa O O
 refine AB O O (AV 5 48 (.bool (((d||(decide (96<(↑b.Links.length:Int))))||(decide (40<(↑b.Towns.length:Int))))||(decide (128<(↑b.Gauges.length:Int))))) ?_ ?_)
 ·cases cp:((d||(decide (96<(↑b.Links.length:Int))))||(decide (40<(↑b.Towns.length:Int))))
  ·exact AC O O O (Ac O y Jr Qe O λcq bf=>AC O O O (Ah BZ m.1 O bf UK O λcr bg=>AC O O O (Ag O bg RG O λcs=>AC O O O (CE O O O (AO O O O (AU O))))))
  exact Aa O O
 refine AB O O (AV 5 54 (.bool ((((d||(decide (96<(↑b.Links.length:Int))))||(decide (40<(↑b.Towns.length:Int))))||(decide (128<(↑b.Gauges.length:Int))))||(decide (128<(↑b.Roads.length:Int))))) ?_ ?_)
 ·cases ct:(((d||(decide (96<(↑b.Links.length:Int))))||(decide (40<(↑b.Towns.length:Int))))||(decide (128<(↑b.Gauges.length:Int))))
  ·exact AC O O O (Ac O y KL Qd O λcu bh=>AC O O O (Ah BZ m.1 O bh UJ O λcv bi=>AC O O O (Ag O bi RE O λcw=>AC O O O (CE O O O (AO O O O (AU O))))))
  exact Aa O O
 refine AB O O (AV 5 60 (.bool (((((d||(decide (96<(↑b.Links.length:Int))))||(decide (40<(↑b.Towns.length:Int))))||(decide (128<(↑b.Gauges.length:Int))))||(decide (128<(↑b.Roads.length:Int))))||(decide (40<(↑b.Shelters.length:Int))))) ?_ ?_)
 ·cases cx:((((d||(decide (96<(↑b.Links.length:Int))))||(decide (40<(↑b.Towns.length:Int))))||(decide (128<(↑b.Gauges.length:Int))))||(decide (128<(↑b.Roads.length:Int))))
  ·exact AC O O O (Ac O y Hx Ob O λcy bj=>AC O O O (Ah BZ m.1 O bj Si O λcz bk=>AC O O O (Ag O bk Pk O λc0=>AC O O O (CE O O O (AO O O O (AU O))))))
  exact Aa O O
 refine AB O O (AV 5 66 (.bool ((((((d||(decide (96<(↑b.Links.length:Int))))||(decide (40<(↑b.Towns.length:Int))))||(decide (128<(↑b.Gauges.length:Int))))||(decide (128<(↑b.Roads.length:Int))))||(decide (40<(↑b.Shelters.length:Int))))||(decide ((↑b.Room.length:Int)≠3)))) ?_ ?_)
 ·cases c1:(((((d||(decide (96<(↑b.Links.length:Int))))||(decide (40<(↑b.Towns.length:Int))))||(decide (128<(↑b.Gauges.length:Int))))||(decide (128<(↑b.Roads.length:Int))))||(decide (40<(↑b.Shelters.length:Int))))
  ·exact AC O O O (Ac O y AZ.f_Room TL O λc2 bl=>AC O O O (Ah BZ m.1 O bl BY O λc3 bm=>AC O O O (Ag O bm BP O λc4=>AC O O O (CH O O O (AO O O O (AU O))))))
  exact Aa O O
 refine AB O O ?_
 obtain⟨bn,k,E⟩:=bd E
 refine AV 5 72 (.bool bn) ?_ ?_
 ·cases ar:((((((d||(decide (96<(↑b.Links.length:Int))))||(decide (40<(↑b.Towns.length:Int))))||(decide (128<(↑b.Gauges.length:Int))))||(decide (128<(↑b.Roads.length:Int))))||(decide (40<(↑b.Shelters.length:Int))))||(decide ((↑b.Room.length:Int)≠3)))
  ·have k:=BV ar k
   refine AC O O O (Ac O y AZ.f_Err VG O λc5 bo=>AC O O O (Af BZ m.1 O bo Ae O λbp=>AC O O O ?_))
   obtain⟨c6,au,k⟩:=bd k
   refine Aw O O O HN O (λh' o=>Bl (St.all h') bp (iq (n:=0) O) (iq (n:=1099511627776) O) au) (AC O O O (Bv O O (AO O O O ?_)))
   cases k
   exact AU O
  have k:=BU ar k
  cases k
  exact Aa O O
 refine BK (kp [72,1] O) λY z A=>AW O (λZ=>?_) (λZ=>?_)
 ·have E:=BU Z E
  refine AA (AG (.inl O) (AF O O (AD (kp [2] O) (Ab (λaa ww hf hw=>?_)))))
  cases E
  exact Dp hf hw O O (e5.trans A) ⟨O,z⟩
 have E:=BV Z E
 refine AT (AA (AA (AG (.inl O) ?_)))
 have ab:=y.mono A
 refine Ac O ab AZ.f_Name Qg O λc7 bq=>Qt A3 z.1 O bq PR O λc8=>NW O PQ O (AB O O (AD (kp [76,75,1] O) (Aj (λa w=>IV B S2 Y (109,[]) a w [(1,q1)] (L) λ_ _=>Da N b=some r) ?_ ?_)))
 ·refine Ay (λn1=>λa w=>∃(C:Int),IV B S2 Y (109,[]) a w [(75,.int .i64 (↑b.Name.size:Int)),(1,q1),(76,.int .i64 C)] (L) λ_ _=>AI C∧DZ N b (Da N b) n1 C=some r) N ?_ ?_ ?_
  ·intro aa ww hf hw
   exact⟨0,_,_,hf.sub (kp [75,1,76] O),hw,z,(B8.refl S2 Y),(iq (n:=0) O),E⟩
  ·rintro aa ww ⟨_,_,_,_,_,_,_,_,E⟩
   rw[DZ] at E;cases E
  rintro n1 aa ww ⟨C,c9,da,hf,hw,u,U,db,E⟩
  refine Ad ?_ hf hw
  clear hf hw ww aa
  rw[DZ] at E
  refine AA (AG (.inl O) (A0 O O O (AD (kp [77,75,1,76] O) (AA (AW O (λac=>?_) (λac=>?_))))))
  ·have E:=BU ac E
   refine AT (AA (A6 (AA (AG (.inl O) (AB O O (AF O O (AD (kp [3,75,1,76] O) (AA (AG (.inl O) ?_)))))))))
   have br:=ab.mono U
   refine Ac O br AZ.f_Name Qg O λdc bs=>Qt A3 u.1 O bs PR O λdd=>AB O O ?_
   obtain⟨c,V,E⟩:=bd E
   have bt:=NU V
   refine NY O O PQ V O (AF O O (AD (kp [4,75,1,76] O) (AA (AG (.inl O) (AB O O (A0 O O O (AB O O (AV 3 88 (.bool ((decide (c<32))||(decide (126<c)))) ?_ ?_))))))))
   ·cases bu:(decide (c<32))
    ·exact AC O O O (AB O O (AC O O O (CE O O O (AO O O O (AU O)))))
    exact Aa O O
   refine AB O O (AV 3 92 (.bool (((decide (c<32))||(decide (126<c)))||(decide (c=34)))) ?_ ?_)
   ·cases bv:((decide (c<32))||(decide (126<c)))
    ·exact AC O O O (AB O O (AC O O O (Bd O O O (AO O O O (AU O)))))
    exact Aa O O
   refine AB O O (AV 3 96 (.bool ((((decide (c<32))||(decide (126<c)))||(decide (c=34)))||(decide (c=92)))) ?_ ?_)
   ·cases bw:(((decide (c<32))||(decide (126<c)))||(decide (c=34)))
    ·exact AC O O O (AB O O (AC O O O (Bd O O O (AO O O O (AU O)))))
    exact Aa O O
   refine AD (kp [96,75,1,76] O) (AW O (λD=>?_) (λD=>?_))
   ·have E:=BU D E
    refine AA (AG (.inl O) (AF O O (AD (kp [2] O) (Ab (λaa ww hf hw=>?_)))))
    cases E
    have ad:=e5.trans (A.trans U)
    exact Dp hf hw O O ad ⟨O,u⟩
   have E:=BV D E
   refine AT (BJ (AG (.inl O) (Ap O O O (AB O O (AD (kp [76,75,1] O) (WF.nil (λaa ww hf hw=>?_)))))))
   exact⟨(BD (C+1)),_,_,hf.sub (kp [75,1,76] O),hw,u,U,(BG _),E⟩
  have E:=BV ac E
  refine BB O (λaa ww hf hw=>?_)
  exact⟨_,_,hf.sub (kp [1] O),hw,u,U,E⟩
 rintro aa ww ⟨F,G,hf,hw,H,I,E⟩
 refine Ad ?_ hf hw
 clear hf hw ww aa
 rw[Da] at E
 refine AA (AA (AG (.inl O) ?_))
 have av:=ab.mono I
 refine Ac O av AZ.f_Room TL O λbx aw=>Ah A3 H.1 O aw BY O λax W=>Ag O W BP O λbz=>AB O O (AD (kp [101,100,99] O) (Aj (λa w=>IV B F G (109,[]) a w [] (L) λ_ _=>E3 N=some r) ?_ ?_))
 ·refine Ay (λn3=>λa w=>∃(s:Int),IV B F G (109,[]) a w [(100,.int .i64 (↑b.Room.length:Int)),(99,ax),(101,.int .i64 s)] (L) λ_ _=>AI s∧DY N b (E3 N) n3 s=some r) N ?_ ?_ ?_
  ·intro aa ww hf hw
   exact⟨0,_,_,hf.sub (kp [100,99,101] O),hw,H,(B8.refl F G),(iq (n:=0) O),E⟩
  ·rintro aa ww ⟨_,_,_,_,_,_,_,_,E⟩
   rw[DY] at E;cases E
  rintro n3 aa ww ⟨s,b0,b1,hf,hw,t,x,b2,E⟩
  refine Ad ?_ hf hw
  clear hf hw ww aa
  rw[DY] at E
  refine AA (AG (.inl O) (A0 O O O (AD (kp [102,100,99,101] O) (AA (AW O (λJ=>?_) (λJ=>?_))))))
  ·have E:=BU J E
   refine AT (AA (A6 (AA (AG (.inl O) ?_))))
   have ay:=W.mono' x
   obtain⟨b3,ae,E⟩:=bd E
   refine A8 O O ay BP ae O λb4 az=>Af A3 t.1 O az Ae O λa0=>AF O O (AD (kp [6,100,99,101] O) (AA (Bn (.inl O) t (AB O O ?_))))
   obtain⟨b5,af,E⟩:=bd E
   refine Aw O O O JG O (λh' o=>Bp (St.all h') a0 af) (Bv O O (BK (kp [107,100,99,101] O) λb6 K X=>AW O (λM=>?_) (λM=>?_)))
   ·have E:=BU M E
    refine AA (AG (.inl O) (AF O O (AD (kp [2] O) (Ab (λaa ww hf hw=>?_)))))
    cases E
    have ag:=e5.trans (A.trans (I.trans (x.trans X)))
    exact Dp hf hw O O ag ⟨O,K⟩
   have E:=BV M E
   refine AT (BJ (AG (.inl O) (Ap O O O (AB O O (AD (kp [101,100,99] O) (WF.nil (λaa ww hf hw=>?_)))))))
   exact⟨(BD (s+1)),_,_,hf.sub (kp [100,99,101] O),hw,K,(x.trans X),(BG _),E⟩
  have E:=BV J E
  refine BB O (λaa ww hf hw=>?_)
  exact⟨_,_,hf.sub OG,hw,t,x,E⟩
 rintro aa ww ⟨b7,b8,hf,hw,ah,a1,E⟩
 refine Ad ?_ hf hw
 clear hf hw ww aa
 rw[E3] at E
 refine AA (AG (.inl O) (AF O O (AD (kp [2] O) (Ab (λaa ww hf hw=>?_)))))
 cases E
 have ai:=e5.trans (A.trans (I.trans a1))
 exact Dp hf hw O O ai ⟨O,ah⟩
end Go.Proofs.YtblcgjadhemlbaaGreat
