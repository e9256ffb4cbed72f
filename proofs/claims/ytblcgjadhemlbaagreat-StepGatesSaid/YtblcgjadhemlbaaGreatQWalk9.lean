import Derived.Test.YtblcgjadhemlbaaGreatQWalk8
namespace Go.Proofs.YtblcgjadhemlbaaGreat
open Go.RowKit
set_option linter.unusedVariables false
set_option linter.unusedSimpArgs false
set_option maxRecDepth 10000
set_option maxHeartbeats 2000000
variable {N:Nat}{S:Nat→Prop}{L:List HP}{h:Aq}
theorem LM (hs:St S L h) {d:Value}{n:Au}(k:Rd S h Bh d n) {g:Value}{b:Ak}(m:Rd S h A4 g b) {i:Int}(X:AI i) {r:Ak}(E:GG N n b i=some r):
 CG Tryz.prog 23 #[d,g,.int .i64 i] S h (λv S' h'=>v= .agg #[.int .i64 r.Pos,.int .i64 r.Target,.bool r.Stuck,.bool r.Open]∧Ak.ok r∧St S' (L) h'):=by
 refine BC (l:=[d,g,.int .i64 i]) 24 Tryz.func23 O Tryz.ntmps23 O λB=>?_
 rw[GG] at E
 refine AA (Am (B1 O k (λe=>by cases e) O hs λq1 S2 h3 Y Z k6=>?_))
 have k7:=m.mono Z
 obtain⟨rfl,⟨r9,C⟩⟩:=A4.ex k7
 refine PG O O O Y λD aj F t=>Cg Pd O F λG H c u=>AX (kp [6,4,3,2] O) (AA (AA (AG (.inl O) ?_)))
 have x:=k6.mono (t.trans u)
 refine Ac O x Au.f_Kind Fs O λak ab=>Af A3 c.1 O ab Ae O λam=>CH O O O (AD (kp [9,6,4,3,2] O) (AW O (λy=>?_) (λy=>?_)))
 ·have E:=BU y E
  refine AA (Am (AJ 1 (Cj (vs:=[.int .i64 b.Pos,.int .i64 b.Target,.bool b.Stuck,.bool b.Open]) A3 c O (mt mh) O O Eo O O (AE (DD (vs:=[.int .i64 b.Pos,.int .i64 b.Target,.bool b.Stuck,.bool b.Open]) O O O O Eo O c .head O λan I ac=>AX (kp [6] O) (Ab (λaa ww hf hw=>?_)))))))
  have o:=I.drop (.tail .head)
  have J:=o.drop .head
  cases E
  have K:=Z.trans (t.trans (u.trans ac))
  exact Jn hf O hw (Hn (V8 hf hw o O mh Eo O) Jm) O K ⟨O,⟨r9,C⟩,J⟩
 have E:=BV y E
 refine AT (AA (Aj (λa w=>∃(j:Bool),IV B S2 H (24,[]) a w [(6,.pointer (some ⟨G,0,none⟩)),(4,.pointer (some ⟨D,0,none⟩))] (Bx G 69 [.int .i64 0,.int .i64 0,.bool false,.bool false]::Bx D 69 [.int .i64 b.Pos,.int .i64 b.Target,.bool b.Stuck,.bool j]::L) λ_ _=>HE N b j=some r) ?_ ?_))
 ·refine AA (AG (.inl O) (AB O O (Ac O x JW NO O λao ad=>Af A3 c.1 O ad Ae O λap=>Hr O O O (AF O O (AD (kp [11,6,4,3,2] O) (AW O (λz=>?_) (λz=>?_)))))))
  ·have E:=BU z E
   refine Am (AJ 1 (AL O NL O (AE (HY (vs:=[.bool true]) (cs':=[.int .i64 b.Pos,.int .i64 b.Target,.bool b.Stuck,.bool true]) O O O O Ng O c (.tail .head) O O λaq M ae=>AX (kp [6,4] O) (WF.nil (λaa ww hf hw=>?_))))))
   exact⟨true,_,_,hf.sub (kp [6,4] O),hw,M,ae,E⟩
  have E:=BV z E
  refine AA (AG (.inl O) (AB O O (Ac O x JX NN O λar af=>Af A3 c.1 O af Ae O λau=>HW O O O (AF O O (AD (kp [17,6,4] O) (AW O (λA=>?_) (λA=>?_)))))))
  ·have E:=BU A E
   refine Am (AJ 1 (AL O NL O (AE (HY (vs:=[.bool false]) (cs':=[.int .i64 b.Pos,.int .i64 b.Target,.bool b.Stuck,.bool false]) O O O O Ng O c (.tail .head) O O λav Q ag=>AX (kp [6,4] O) (WF.nil (λaa ww hf hw=>?_))))))
   exact⟨false,_,_,hf.sub (kp [6,4] O),hw,Q,ag,E⟩
  have E:=BV A E
  refine AT (WF.nil (λaa ww hf hw=>?_))
  exact⟨b.Open,_,_,hf.sub (kp [6,4] O),hw,c,(B8.refl S2 H),E⟩
 rintro aa ww ⟨j,aw,ax,hf,hw,p,ah,E⟩
 refine Ad ?_ hf hw
 clear hf hw ww aa
 rw[HE] at E
 refine AA (Am (AJ 1 (Cj (vs:=[.int .i64 b.Pos,.int .i64 b.Target,.bool b.Stuck,.bool j]) A3 p O (mt mh) O O Eo O O (AE (DD (vs:=[.int .i64 b.Pos,.int .i64 b.Target,.bool b.Stuck,.bool j]) O O O O Eo O p .head O λay U ai=>AX (kp [6] O) (Ab (λaa ww hf hw=>?_)))))))
 have s:=U.drop (.tail .head)
 have V:=s.drop .head
 cases E
 have W:=Z.trans (t.trans (u.trans (ah.trans ai)))
 exact Jn hf O hw (Hn (V8 hf hw s O mh Eo O) Jm) O W ⟨O,⟨r9,C⟩,V⟩
theorem K2 {c:Nat}{p0_w:Ai}{W:Value}{Y:Value}{I:Value}{Z:Value}{ab:Value}{ac:Value}{ad:Value}{ae:Value}{J:Value}{K:Value}{M:Value}{Q:Value}{U:Value}{g:Value}{t:Value}{an:Value}{D:Value}{u:Value}{y:Value}{z:Value}{G:Value}{A:Value}(hs:St S (Bx c 84 [.string p0_w.b.Name,W,.int .i64 p0_w.b.Cells,Y,I,Z,ab,ac,ad,ae,.int .i64 p0_w.b.Err,J,K,M,Q,U,.int .i64 p0_w.s.Hour,g,t,an,D,u,y,z,G,A]::OO AN.int 3 29 g p0_w.s.Own::OS AN.int 3 t p0_w.s.Rem::OS A4 69 D p0_w.s.Gates::OS AN.int 3 u p0_w.s.In::OS AN.int 3 y p0_w.s.Out::OS BT 50 z p0_w.moves::OS AN.int 3 G p0_w.peaks::OS An 60 A p0_w.sent::L) h) (e6:p0_w.b.Name.size≤maxLen) (ba:Sl S h AN.str W p0_w.b.Owners) (e7:AI p0_w.b.Cells) (aq:Sl S h Br Y p0_w.b.Places) (bb:Sl S h Bh I p0_w.b.Links) (e8:Sl S h F6 Z p0_w.b.Towns) (e9:Sl S h D4 ab p0_w.b.Gauges) (fa:Sl S h Fo ac p0_w.b.Roads) (fb:Sl S h Cw ad p0_w.b.Shelters) (fc:Sl S h AN.int ae p0_w.b.Room) (ct:AI p0_w.b.Err) (cu:Sl S h AN.int J p0_w.in_.Rain) (cv:Sl S h Ek K p0_w.in_.Faults) (cw:Sl S h Hg M p0_w.in_.Cmds) (cx:Sl S h FJ Q p0_w.in_.Takes) (cy:Sl S h F7 U p0_w.in_.Swaps) (a2:AI p0_w.s.Hour) (a3:Sl S h An an p0_w.s.Queue) {r:(List (List Int))×(List Az)×(List Ak)×(List Int)}(E:Fk N p0_w=some r):
 CG Tryz.prog 33 #[.pointer (some ⟨c,0,none⟩)] S h (λv S' h'=>∃w_0_17 w_0_19 w_0_20 w_0_24:Value,v= .tuple #[]∧St S' (Bx c 84 [.string p0_w.b.Name,W,.int .i64 p0_w.b.Cells,Y,I,Z,ab,ac,ad,ae,.int .i64 p0_w.b.Err,J,K,M,Q,U,.int .i64 p0_w.s.Hour,w_0_17,t,w_0_19,w_0_20,u,y,z,w_0_24,A]::OS (AN.sl AN.int) 29 w_0_17 r.1::OS AN.int 3 t p0_w.s.Rem::OS An 60 w_0_19 r.2.1::OS A4 69 w_0_20 r.2.2.1::OS AN.int 3 u p0_w.s.In::OS AN.int 3 y p0_w.s.Out::OS BT 50 z p0_w.moves::OS AN.int 3 w_0_24 r.2.2.2::OS An 60 A p0_w.sent::L) h'):=by
 refine BC (l:=[.pointer (some ⟨c,0,none⟩)]) 123 Tryz.func33 O Tryz.ntmps33 O λB=>?_
 rw[Fk] at E
 have ho:=hs.pick (.tail .head)
 obtain⟨S2,H,e4⟩:=ho.ooPub
 refine AA ?_
 obtain⟨ah,fd,E⟩:=bd E
 refine Qn (m:=[(0,.pointer (some ⟨c,0,none⟩))]) [] [] [(23,[22]),(24,[23]),(25,[23]),(26,[24]),(27,[25])] (by kernel_rfl) (λgv X F i v hh=>match i with|0=>v= .pointer (some ⟨c,0,none⟩)|1=>v= .pointer (some ⟨c,0,none⟩)|2=>v= .pointer (some ⟨c,16,none⟩)|3=>v= .pointer (some ⟨c,19,none⟩)|4=>Sl S2 hh An v p0_w.s.Queue|5=>v= .pointer (some ⟨c,0,none⟩)|6=>v= .pointer (some ⟨c,0,none⟩)|7=>v= .pointer (some ⟨c,16,none⟩)|8=>v= .pointer (some ⟨c,16,none⟩)|9=>v= .int .i64 p0_w.s.Hour∧AI p0_w.s.Hour|10=>v= .pointer (some ⟨c,0,none⟩)|11=>v= .pointer (some ⟨c,0,none⟩)|12=>v= .pointer (some ⟨c,0,none⟩)|13=>v= .pointer (some ⟨c,3,none⟩)|14=>Sl S2 hh Br v p0_w.b.Places|15=>v= .int .i64 (↑p0_w.b.Places.length:Int)∧AI (↑p0_w.b.Places.length:Int)|16=>v= .pointer (some ⟨c,0,none⟩)|17=>v= .pointer (some ⟨c,0,none⟩)|18=>v= .pointer (some ⟨c,0,none⟩)|19=>v= .pointer (some ⟨c,1,none⟩)|20=>Sl S2 hh AN.str v p0_w.b.Owners|21=>v= .int .i64 (↑p0_w.b.Owners.length:Int)∧AI (↑p0_w.b.Owners.length:Int)|22=>∃w0 w1:Value,v= .tuple #[w0,w1]∧OW S2 h X F [OS (AN.sl AN.int) 29 w0 ah.1,OS An 60 w1 ah.2] hh|23=>v=gv 22∧∃w0 w1:Value,v= .tuple #[w0,w1]|24=>v=XL (gv 23) 0|25=>v=XL (gv 23) 1|26=>v=gv 24|27=>v=gv 25|_=>False) [[],[(0,8)],[(1,9)],[(2,10)],[(3,11)],[],[(5,13)],[(6,14)],[(7,15)],[(8,16)],[],[(10,18)],[(11,19)],[(12,20)],[(13,21)],[(14,22)],[],[(16,24)],[(17,25)],[(18,26)],[(19,27)],[(20,28)],[(4,12),(9,17),(15,23),(21,29)],[(22,30)],[(23,7)],[(23,7)],[(24,31)],[(25,32)]] [(22,30),(23,7),(24,31),(25,32),(26,2),(27,3)] mo (by kernel_rfl) [0] O (by kernel_rfl) (by kernel_rfl) (by kernel_rfl) O (kp [0] O) (λgv i v h1 h2 X X' F o1 o2 hF u1 u2 hr=>?_) (λgv gv' X F i v h1 hz hr=>?_) ?_ ?_ ?_
 ·match i,hr with
   |0,hr=>exact hr
   |1,hr=>exact hr
   |2,hr=>exact hr
   |3,hr=>exact hr
   |4,hr=>exact Sl.mono' hr (o2.ext λb hb=>Nat.lt_of_lt_of_le (H.1 b hb) o1.siz)
   |5,hr=>exact hr
   |6,hr=>exact hr
   |7,hr=>exact hr
   |8,hr=>exact hr
   |9,hr=>exact hr
   |10,hr=>exact hr
   |11,hr=>exact hr
   |12,hr=>exact hr
   |13,hr=>exact hr
   |14,hr=>exact Sl.mono' hr (o2.ext λb hb=>Nat.lt_of_lt_of_le (H.1 b hb) o1.siz)
   |15,hr=>exact hr
   |16,hr=>exact hr
   |17,hr=>exact hr
   |18,hr=>exact hr
   |19,hr=>exact hr
   |20,hr=>exact Sl.mono' hr (o2.ext λb hb=>Nat.lt_of_lt_of_le (H.1 b hb) o1.siz)
   |21,hr=>exact hr
   |22,hr=>obtain⟨w0,w1,ev,q⟩:=hr;exact⟨w0,w1,ev,OW.mono H.1 o1 o2 hF u1 u2 q⟩
   |23,hr=>exact hr
   |24,hr=>exact hr
   |25,hr=>exact hr
   |26,hr=>exact hr
   |27,hr=>exact hr
   |_+28,hr=>exact hr.elim
 ·match i,hr with
   |0,hr=>exact hr
   |1,hr=>exact hr
   |2,hr=>exact hr
   |3,hr=>exact hr
   |4,hr=>exact hr
   |5,hr=>exact hr
   |6,hr=>exact hr
   |7,hr=>exact hr
   |8,hr=>exact hr
   |9,hr=>exact hr
   |10,hr=>exact hr
   |11,hr=>exact hr
   |12,hr=>exact hr
   |13,hr=>exact hr
   |14,hr=>exact hr
   |15,hr=>exact hr
   |16,hr=>exact hr
   |17,hr=>exact hr
   |18,hr=>exact hr
   |19,hr=>exact hr
   |20,hr=>exact hr
   |21,hr=>exact hr
   |22,hr=>exact hr
   |23,hr=>rw[hz _ List.mem_cons_self O 22 (by decide)] at hr;exact hr
   |24,hr=>rw[hz _ (List.mem_cons_of_mem _ List.mem_cons_self) O 23 (by decide)] at hr;exact hr
   |25,hr=>rw[hz _ (List.mem_cons_of_mem _ (List.mem_cons_of_mem _ List.mem_cons_self)) O 23 (by decide)] at hr;exact hr
   |26,hr=>rw[hz _ (List.mem_cons_of_mem _ (List.mem_cons_of_mem _ (List.mem_cons_of_mem _ List.mem_cons_self))) O 24 (by decide)] at hr;exact hr
   |27,hr=>rw[hz _ (List.mem_cons_of_mem _ (List.mem_cons_of_mem _ (List.mem_cons_of_mem _ (List.mem_cons_of_mem _ List.mem_cons_self)))) O 25 (by decide)] at hr;exact hr
   |_+28,hr=>exact hr.elim
 ·exact trivial
 ·refine B5.cons O O ?_ ?_
  ·intro gv X mq hh o hX
   have hsN:=o.st H
   exact AJ 1 (AB O O (AE (AK (BA.refl _) O)))
  refine B5.cons O O ?_ ?_
  ·intro gv X mq hh o hX
   have hsN:=o.st H
   intro la cz
   obtain⟨ib,_,_,cz⟩:=cz
   cases cz
   exact AJ 1 (CI O O (AE (AK (BA.refl _) O)))
  refine B5.cons O O ?_ ?_
  ·intro gv X mq hh o hX
   have hsN:=o.st H
   intro lb c0
   obtain⟨ic,_,_,c0⟩:=c0
   cases c0
   exact AJ 1 (AL O CV O (AE (AK (BA.refl _) O)))
  refine B5.cons O O ?_ ?_
  ·intro gv X mq hh o hX
   have hsN:=o.st H
   intro lc c1
   obtain⟨ie,_,_,c1⟩:=c1
   cases c1
   exact AJ 1 (AL O JR O (AE (AK (BA.refl _) O)))
  refine B5.cons O O ?_ ?_
  ·intro gv X mq hh o hX
   have hsN:=o.st H
   intro le c2
   obtain⟨ig,_,_,c2⟩:=c2
   cases c2
   refine AJ 1 (AS A3 hsN O (mt mh) O Kk O (AE ?_))
   have hp:=a3.mono' (e4.trans (o.ext H.1))
   exact AK (BA.refl _) hp
  refine B5.cons O O ?_ ?_
  ·intro gv X mq hh o hX
   have hsN:=o.st H
   exact AJ 1 (AB O O (AE (AK (BA.refl _) O)))
  refine B5.cons O O ?_ ?_
  ·intro gv X mq hh o hX
   have hsN:=o.st H
   intro lf c3
   obtain⟨ih,_,_,c3⟩:=c3
   cases c3
   exact AJ 1 (CI O O (AE (AK (BA.refl _) O)))
  refine B5.cons O O ?_ ?_
  ·intro gv X mq hh o hX
   have hsN:=o.st H
   intro lg c4
   obtain⟨ii,_,_,c4⟩:=c4
   cases c4
   exact AJ 1 (AL O CV O (AE (AK (BA.refl _) O)))
  refine B5.cons O O ?_ ?_
  ·intro gv X mq hh o hX
   have hsN:=o.st H
   intro lh c5
   obtain⟨ij,_,_,c5⟩:=c5
   cases c5
   exact AJ 1 (AL O ID O (AE (AK (BA.refl _) O)))
  refine B5.cons O O ?_ ?_
  ·intro gv X mq hh o hX
   have hsN:=o.st H
   intro li c6
   obtain⟨ik,_,_,c6⟩:=c6
   cases c6
   exact AJ 1 (AS A3 hsN O (mt mh) O Ae O (AE (AK (BA.refl _) ⟨O,a2⟩)))
  refine B5.cons O O ?_ ?_
  ·intro gv X mq hh o hX
   have hsN:=o.st H
   exact AJ 1 (AB O O (AE (AK (BA.refl _) O)))
  refine B5.cons O O ?_ ?_
  ·intro gv X mq hh o hX
   have hsN:=o.st H
   intro lj c7
   obtain⟨il,_,_,c7⟩:=c7
   cases c7
   exact AJ 1 (CI O O (AE (AK (BA.refl _) O)))
  refine B5.cons O O ?_ ?_
  ·intro gv X mq hh o hX
   have hsN:=o.st H
   intro ll c8
   obtain⟨im,_,_,c8⟩:=c8
   cases c8
   exact AJ 1 (AL O Fq O (AE (AK (BA.refl _) O)))
  refine B5.cons O O ?_ ?_
  ·intro gv X mq hh o hX
   have hsN:=o.st H
   intro lm c9
   obtain⟨io,_,_,c9⟩:=c9
   cases c9
   exact AJ 1 (AL O DK O (AE (AK (BA.refl _) O)))
  refine B5.cons O O ?_ ?_
  ·intro gv X mq hh o hX
   have hsN:=o.st H
   intro lo da
   obtain⟨ip,_,_,da⟩:=da
   cases da
   refine AJ 1 (AS A3 hsN O (mt mh) O F9 O (AE ?_))
   have hq:=aq.mono' (e4.trans (o.ext H.1))
   exact AK (BA.refl _) hq
  refine B5.cons O O ?_ ?_
  ·intro gv X mq hh o hX
   have hsN:=o.st H
   intro ht bc
   obtain⟨ir,_,_,bc⟩:=bc
   have bc:Sl _ _ Br ht p0_w.b.Places:=bc
   exact AJ 1 (Ag O bc FA O λhu=>AE (AK (BA.refl _) ⟨O,(JE hu)⟩))
  refine B5.cons O O ?_ ?_
  ·intro gv X mq hh o hX
   have hsN:=o.st H
   exact AJ 1 (AB O O (AE (AK (BA.refl _) O)))
  refine B5.cons O O ?_ ?_
  ·intro gv X mq hh o hX
   have hsN:=o.st H
   intro lp db
   obtain⟨it,_,_,db⟩:=db
   cases db
   exact AJ 1 (CI O O (AE (AK (BA.refl _) O)))
  refine B5.cons O O ?_ ?_
  ·intro gv X mq hh o hX
   have hsN:=o.st H
   intro lq dc
   obtain⟨iu,_,_,dc⟩:=dc
   cases dc
   exact AJ 1 (AL O Fq O (AE (AK (BA.refl _) O)))
  refine B5.cons O O ?_ ?_
  ·intro gv X mq hh o hX
   have hsN:=o.st H
   intro lr dd
   obtain⟨iv,_,_,dd⟩:=dd
   cases dd
   exact AJ 1 (AL O HS O (AE (AK (BA.refl _) O)))
  refine B5.cons O O ?_ ?_
  ·intro gv X mq hh o hX
   have hsN:=o.st H
   intro ls de
   obtain⟨iw,_,_,de⟩:=de
   cases de
   refine AJ 1 (AS A3 hsN O (mt mh) O J6 O (AE ?_))
   have hv:=ba.mono' (e4.trans (o.ext H.1))
   exact AK (BA.refl _) hv
  refine B5.cons O O ?_ ?_
  ·intro gv X mq hh o hX
   have hsN:=o.st H
   intro hx be
   obtain⟨iy,_,_,be⟩:=be
   have be:Sl _ _ AN.str hx p0_w.b.Owners:=be
   exact AJ 1 (Ag O be Js O λhy=>AE (AK (BA.refl _) ⟨O,(JE hy)⟩))
  refine L9 O O ?_ ?_
  ·intro gv X mq hh o hX
   have hsN:=SX.fz (X:=X) H o
   intro h0 a4 lt df lu dg lv dh
   obtain⟨iz,_,_,a4⟩:=a4
   have a4:=Sl.mono' (S':=(SX S2 h hh X)) a4 ⟨λb hb=>(SX.ext H.1 o hX).sub b hb,λ_ _=>rfl,Nat.le_refl _⟩
   have a4:Sl _ _ An h0 p0_w.s.Queue:=a4
   obtain⟨i0,_,_,df⟩:=df
   obtain⟨rfl,h3⟩:=df
   obtain⟨i1,_,_,dg⟩:=dg
   obtain⟨rfl,h4⟩:=dg
   obtain⟨i2,_,_,dh⟩:=dh
   obtain⟨rfl,h5⟩:=dh
   refine Cr O O O aX O (PS hsN a4 h3 h4 h5 fd) λlw lx ly h6 p=>?_
   obtain⟨lz,l0,rfl,di⟩:=p
   have hsG:=di.pick (.tail (.tail .head))
   obtain⟨F101,hF102,fe,i3,ff⟩:=OW.done H.1 o hX h6 hsG
   exact AK fe ⟨F101,hF102,⟨_,_,O,ff⟩⟩
  refine B5.cons O O ?_ ?_
  ·intro gv X mq hh o hX
   have hsN:=o.st H
   intro i4 bf
   obtain⟨dj,_,_,bf⟩:=bf
   obtain⟨i5,i6,rfl,i7⟩:=bf
   exact AJ 1 (AB O O (AE (AK (BA.refl _) ⟨dj,_,_,O⟩)))
  refine B5.cons O O ?_ ?_
  ·intro gv X mq hh o hX
   have hsN:=o.st H
   intro i8 bg
   obtain⟨dk,_,_,bg⟩:=bg
   obtain⟨_,i9,ja,rfl⟩:=bg
   exact AJ 1 (CJ O O O (AE (AK (BA.refl _) (by rw[←dk];rfl))))
  refine B5.cons O O ?_ ?_
  ·intro gv X mq hh o hX
   have hsN:=o.st H
   intro jb bh
   obtain⟨dl,_,_,bh⟩:=bh
   obtain⟨_,jc,jd,rfl⟩:=bh
   exact AJ 1 (CJ O O O (AE (AK (BA.refl _) (by rw[←dl];rfl))))
  refine B5.cons O O ?_ ?_
  ·intro gv X mq hh o hX
   have hsN:=o.st H
   intro je b9
   obtain⟨dm,_,_,b9⟩:=b9
   exact AJ 1 (AF O O (AE (AK (BA.refl _) dm)))
  refine B5.cons O O ?_ ?_
  ·intro gv X mq hh o hX
   have hsN:=o.st H
   intro jf ca
   obtain⟨dn,_,_,ca⟩:=ca
   exact AJ 1 (AF O O (AE (AK (BA.refl _) dn)))
  exact trivial
 intro bi a5 h7 a8 ax dp jg bj cb bk cc bl cd bm ce bn cf bo
 obtain⟨dq,bj⟩:=bj
 obtain⟨bp,bk⟩:=bk
 obtain⟨dr,bl⟩:=bl
 obtain⟨ds,bm⟩:=bm
 obtain⟨h8,bn⟩:=bn
 obtain⟨h9,bo⟩:=bo
 obtain⟨aj,ar,rfl,fg⟩:=bj
 have a6:=(Sa.cons (Sa.nil H a8 ax) dp (j:=22) O fg).st
 simp only[List.cons_append,List.nil_append] at a6
 obtain rfl: .tuple #[aj,ar]=cb:=((by rw[bk.1,←dq];try rfl:cb= .tuple #[aj,ar])).symm
 obtain rfl:aj=cc:=((by rw[bl,←bp];try rfl:cc=aj)).symm
 obtain rfl:ar=cd:=((by rw[bm,←bp];try rfl:cd=ar)).symm
 obtain rfl:aj=ce:=((by rw[bn,←dr];try rfl:ce=aj)).symm
 obtain rfl:ar=cf:=((by rw[bo,←ds];try rfl:cf=ar)).symm
 refine AX (kp [3,2,0] O) (AA (Am (AJ 5 (AB O O (AB O O (CI O O (AL O CV O (AL O JR O (AE ?_)))))))))
 obtain⟨ai,ag,rfl,jh⟩:=a6.oslen (mt mh)
 refine HY (vs:=[(.slice ai ah.2.length ag)]) (cs':=[.string p0_w.b.Name,W,.int .i64 p0_w.b.Cells,Y,I,Z,ab,ac,ad,ae,.int .i64 p0_w.b.Err,J,K,M,Q,U,.int .i64 p0_w.s.Hour,g,t,(.slice ai ah.2.length ag),D,u,y,z,G,A]) O O O O Kk O a6 (.tail (.tail (.tail .head))) O O λbq br bs=>AX (kp [2,0] O) (AA (AA (AG (.inl O) (AB O O (CI O O (AL O Fq O (AL O DK O (AS A3 br O (mt (mt (mt mh))) O F9 O ?_))))))))
 have dt:=e4.trans ((SX.ext H.1 a8 (WG ax)).trans bs)
 have fh:=aq.mono' dt
 refine Ag O fh FA O λji=>AB O O (AD (kp [44,43,2,0] O) (Aj (λa w=>∃(ao:List (List Int)) (ap:List Int),IV B (SX S2 h bi (UX a5)) bq (123,[]) a w [(0,.pointer (some ⟨c,0,none⟩))] (OS An 60 (.slice ai ah.2.length ag) ah.2::OS (AN.sl AN.int) 29 g ao::Bx c 84 [.string p0_w.b.Name,W,.int .i64 p0_w.b.Cells,Y,I,Z,ab,ac,ad,ae,.int .i64 p0_w.b.Err,J,K,M,Q,U,.int .i64 p0_w.s.Hour,g,t,(.slice ai ah.2.length ag),D,u,y,z,G,A]::OS AN.int 3 t p0_w.s.Rem::OS A4 69 D p0_w.s.Gates::OS AN.int 3 u p0_w.s.In::OS AN.int 3 y p0_w.s.Out::OS BT 50 z p0_w.moves::OS AN.int 3 G ap::OS An 60 A p0_w.sent::L) λ_ _=>CS N p0_w ah ao ap=some r) ?_ ?_))
 ·refine Ay (λn1=>λa w=>∃(af:Int) (au:List (List Int)) (av:List Int),IV B (SX S2 h bi (UX a5)) bq (123,[]) a w [(43,.int .i64 (↑p0_w.b.Places.length:Int)),(2,aj),(0,.pointer (some ⟨c,0,none⟩)),(44,.int .i64 af)] (OS (AN.sl AN.int) 29 aj ah.1::OS An 60 (.slice ai ah.2.length ag) ah.2::OS (AN.sl AN.int) 29 g au::Bx c 84 [.string p0_w.b.Name,W,.int .i64 p0_w.b.Cells,Y,I,Z,ab,ac,ad,ae,.int .i64 p0_w.b.Err,J,K,M,Q,U,.int .i64 p0_w.s.Hour,g,t,(.slice ai ah.2.length ag),D,u,y,z,G,A]::OS AN.int 3 t p0_w.s.Rem::OS A4 69 D p0_w.s.Gates::OS AN.int 3 u p0_w.s.In::OS AN.int 3 y p0_w.s.Out::OS BT 50 z p0_w.moves::OS AN.int 3 G av::OS An 60 A p0_w.sent::L) λ_ _=>AI af∧CR N p0_w ah (CS N p0_w ah) n1 af au av=some r) N ?_ ?_ ?_
  ·intro aa ww hf hw
   exact⟨0,p0_w.s.Own,p0_w.peaks,_,_,hf.sub (kp [43,2,0,44] O),hw,br,(B8.refl (SX S2 h bi (UX a5)) bq),(iq (n:=0) O),E⟩
  ·rintro aa ww ⟨_,_,_,_,_,_,_,_,_,_,E⟩
   rw[CR] at E;cases E
  rintro n1 aa ww ⟨af,au,av,ay,bt,hf,hw,C,cg,bu,E⟩
  refine Ad ?_ hf hw
  clear hf hw ww aa
  rw[CR] at E
  refine AA (AG (.inl O) (A0 O O O (AD (kp [45,43,2,0,44] O) (AA (AW O (λbv=>?_) (λbv=>?_))))))
  ·have E:=BU bv E
   refine AT (AA (A6 (AA (AG (.inl O) (AB O O (AF O O (AD (kp [4,43,2,0,44] O) (AA ?_))))))))
   obtain⟨jj,du,E⟩:=bd E
   obtain⟨ch,dv,E⟩:=bd E
   obtain⟨jk,dw,E⟩:=bd E
   obtain⟨ci,dx,E⟩:=bd E
   obtain⟨bw,dy,E⟩:=bd E
   obtain⟨jl,dz,E⟩:=bd E
   refine Mk (m:=[(4,.int .i64 af),(43,.int .i64 (↑p0_w.b.Places.length:Int)),(2,aj),(0,.pointer (some ⟨c,0,none⟩)),(44,.int .i64 af)]) 20 (λi v hh=>match i with|0=>v= .pointer (some ⟨c,0,none⟩)|1=>v= .pointer (some ⟨c,0,none⟩)|2=>v= .pointer (some ⟨c,16,none⟩)|3=>v= .pointer (some ⟨c,17,none⟩)|4=>v=g|5=>v= .int .i64 af∧AI af|6=>v= .pointer (some ⟨c,0,none⟩)|7=>v= .pointer (some ⟨c,0,none⟩)|8=>v= .pointer (some ⟨c,16,none⟩)|9=>v= .pointer (some ⟨c,17,none⟩)|10=>v=g|11=>v= .int .i64 af∧AI af|12=>EP g (af.toNat*((AN.sl AN.int)).sz+0) v|13=>Sl ay hh AN.int v ch|14=>v=aj|15=>v= .int .i64 af∧AI af|16=>EP aj (af.toNat*((AN.sl AN.int)).sz+0) v|17=>Sl ay hh AN.int v ci|18=>Sl (SN ay bt hh) hh AN.int v bw|19=>EP g (af.toNat*((AN.sl AN.int)).sz+0) v|_=>False) [[],[(0,47)],[(1,48)],[(2,49)],[(3,50)],[],[],[(6,53)],[(7,54)],[(8,55)],[(9,56)],[],[(10,57),(11,58)],[(12,59)],[],[],[(14,61),(15,62)],[(16,63)],[(13,60),(17,64)],[(4,51),(5,52)]] [(18,65),(19,66)] mo (by kernel_rfl) [4,43,2,0,44] O (by kernel_rfl) (by kernel_rfl) (by kernel_rfl) (kp [4,43,2,0,44] O) (λi v h1 h2 o1 o2 hr=>?_) ?_ ?_
   ·match i,hr with
     |0,hr=>exact hr
     |1,hr=>exact hr
     |2,hr=>exact hr
     |3,hr=>exact hr
     |4,hr=>exact hr
     |5,hr=>exact hr
     |6,hr=>exact hr
     |7,hr=>exact hr
     |8,hr=>exact hr
     |9,hr=>exact hr
     |10,hr=>exact hr
     |11,hr=>exact hr
     |12,hr=>exact hr
     |13,hr=>exact Sl.mono' hr (o2.ext λb hb=>Nat.lt_of_lt_of_le (C.1 b hb) o1.siz)
     |14,hr=>exact hr
     |15,hr=>exact hr
     |16,hr=>exact hr
     |17,hr=>exact Sl.mono' hr (o2.ext λb hb=>Nat.lt_of_lt_of_le (C.1 b hb) o1.siz)
     |18,hr=>exact Sl.mono' hr (SN.mono C.1 o1 o2)
     |19,hr=>exact hr
     |_+20,hr=>exact hr.elim
   ·refine Ax.cons O ?_ ?_
    ·intro mq hh o
     have hsN:=o.st C
     exact AJ 1 (AB O O (AE (AK (BA.refl _) O)))
    refine Ax.cons O ?_ ?_
    ·intro mq hh o
     intro jm fi
     have hsN:=o.st C
     cases fi
     exact AJ 1 (CI O O (AE (AK (BA.refl _) O)))
    refine Ax.cons O ?_ ?_
    ·intro mq hh o
     intro jn fj
     have hsN:=o.st C
     cases fj
     exact AJ 1 (AL O CV O (AE (AK (BA.refl _) O)))
    refine Ax.cons O ?_ ?_
    ·intro mq hh o
     intro jo fk
     have hsN:=o.st C
     cases fk
     exact AJ 1 (AL O D3 O (AE (AK (BA.refl _) O)))
    refine Ax.cons O ?_ ?_
    ·intro mq hh o
     intro jp fl
     have hsN:=o.st C
     cases fl
     exact AJ 1 (AS A3 hsN O (mt (mt (mt mh))) O G3 O (AE (AK (BA.refl _) O)))
    refine Ax.cons O ?_ ?_
    ·intro mq hh o
     have hsN:=o.st C
     exact AJ 1 (AB O O (AE (AK (BA.refl _) ⟨O,bu⟩)))
    refine Ax.cons O ?_ ?_
    ·intro mq hh o
     have hsN:=o.st C
     exact AJ 1 (AB O O (AE (AK (BA.refl _) O)))
    refine Ax.cons O ?_ ?_
    ·intro mq hh o
     intro jq fm
     have hsN:=o.st C
     cases fm
     exact AJ 1 (CI O O (AE (AK (BA.refl _) O)))
    refine Ax.cons O ?_ ?_
    ·intro mq hh o
     intro jr fn
     have hsN:=o.st C
     cases fn
     exact AJ 1 (AL O CV O (AE (AK (BA.refl _) O)))
    refine Ax.cons O ?_ ?_
    ·intro mq hh o
     intro js fo
     have hsN:=o.st C
     cases fo
     exact AJ 1 (AL O D3 O (AE (AK (BA.refl _) O)))
    refine Ax.cons O ?_ ?_
    ·intro mq hh o
     intro jt fp
     have hsN:=o.st C
     cases fp
     exact AJ 1 (AS A3 hsN O (mt (mt (mt mh))) O G3 O (AE (AK (BA.refl _) O)))
    refine Ax.cons O ?_ ?_
    ·intro mq hh o
     have hsN:=o.st C
     exact AJ 1 (AB O O (AE (AK (BA.refl _) ⟨O,bu⟩)))
    refine Ax.cons O ?_ ?_
    ·intro mq hh o
     intro ju fq jv fr
     have hsN:=o.st C
     cases fq
     obtain⟨rfl,jw⟩:=fr
     exact AJ 1 (A5 hsN (mt (mt mh)) O O E8 du O λjx d0=>AE (AK (BA.refl _) d0))
    refine Ax.cons O ?_ ?_
    ·intro mq hh o
     intro jy fs
     have hsN:=o.st C
     refine AJ 1 ?_
     have ft:=hsN.epAt (mt (mt mh)) dv El.id fs
     exact Ah A3 (λ_ x=>x) O ft BY O λjz fu=>AE (AK (BA.refl _) fu)
    refine Ax.cons O ?_ ?_
    ·intro mq hh o
     have hsN:=o.st C
     exact AJ 1 (AB O O (AE (AK (BA.refl _) O)))
    refine Ax.cons O ?_ ?_
    ·intro mq hh o
     have hsN:=o.st C
     exact AJ 1 (AB O O (AE (AK (BA.refl _) ⟨O,bu⟩)))
    refine Ax.cons O ?_ ?_
    ·intro mq hh o
     intro j0 fv j1 fw
     have hsN:=o.st C
     cases fv
     obtain⟨rfl,j2⟩:=fw
     exact AJ 1 (A5 hsN mh O O E8 dw O λj3 d1=>AE (AK (BA.refl _) d1))
    refine Ax.cons O ?_ ?_
    ·intro mq hh o
     intro j4 fx
     have hsN:=o.st C
     refine AJ 1 ?_
     have fy:=hsN.epAt mh dx El.id fx
     exact Ah A3 (λ_ x=>x) O fy BY O λj5 f0=>AE (AK (BA.refl _) f0)
    refine Ax.cons O ?_ ?_
    ·intro mq hh o
     intro f1 az f2 a0
     have hsN:=SN.st C o
     have az:=Sl.mono' (S':=(SN ay bt hh)) az ⟨λb hb=> .inl hb,λ_ _=>rfl,Nat.le_refl _⟩
     have az:Sl _ _ AN.int f1 ch:=az
     have a0:=Sl.mono' (S':=(SN ay bt hh)) a0 ⟨λb hb=> .inl hb,λ_ _=>rfl,Nat.le_refl _⟩
     have a0:Sl _ _ AN.int f2 ci:=a0
     have hsF:=hsN.fz
     refine Bb O O O Vl O hsF (K5 (St.all _) (az.mono (λb hb=>hsF.1 b hb) (λ_ _=>rfl)) (a0.mono (λb hb=>hsF.1 b hb) (λ_ _=>rfl)) dy) λj6 j7 j8 ia f3 f4 p=>?_
     have d2:=p
     have bx:=hsF.join f4 d2 ⟨OS.flat (λ{_ _ _ _ _ _} k=>k),trivial⟩
     simp only[List.cons_append,List.nil_append] at bx
     obtain⟨j9,d3,f5,f6⟩:=bx.pubs .head
     have bz:=Fz.done o (f3.trans f5) d3
     exact AK bz.1 (Sl.mono' f6 bz.2)
    refine Ax.cons O ?_ ?_
    ·intro mq hh o
     intro ka f7 kb f8
     have hsN:=o.st C
     cases f7
     obtain⟨rfl,kc⟩:=f8
     exact AJ 1 (A5 hsN (mt (mt mh)) O O E8 dz O λkd d4=>AE (AK (BA.refl _) d4))
    exact trivial
   intro ke cj f9 b0 kf ga
   have d5:=SN.st C cj
   have b0:Sl _ _ AN.int f9 bw:=b0
   obtain⟨gb,d6,E⟩:=bd E
   refine Ef (r:=(AN.sl AN.int)) (l:=au) (i:=af) (x:=gb) O O (MT b0) ga d6 LG.id BY (λ_=>rfl) d5 (.tail (.tail .head)) λkg ak gc=>AX (kp [4,43,2,0,44] O) (JM 15 mo (by kernel_rfl) O ak (AB O O (CI O O (AL O JQ O (AS BZ ak O (mt (mt (mt mh))) O BY O (AB O O (AB O O (CI O O (AL O CV O (AL O D3 O (AS BZ ak O (mt (mt (mt mh))) O G3 O (AB O O ?_))))))))))))
   obtain⟨kh,d7,E⟩:=bd E
   refine A5 ak (mt (mt mh)) O O E8 d7 O λki d8=>?_
   obtain⟨kj,d9,E⟩:=bd E
   have gd:=ak.epAt (mt (mt mh)) d9 El.id d8
   refine Ah BZ (λ_ x=>x) O gd BY O λkk ge=>?_
   obtain⟨ck,ea,E⟩:=bd E
   refine CM O O O Mj O (λh' o=>Ea (St.all h') (ge.mono' (o.all ak.1)) ea) λgf=>?_
   have gg:=gf
   obtain⟨kl,eb,E⟩:=bd E
   refine A5 ak (mt (mt (mt (mt (mt (mt (mt (mt (mt mh))))))))) O O BP eb O λkm ec=>IJ λkn ed gh=>?_
   obtain⟨gi,ee,E⟩:=bd E
   refine Ef (r:=AN.int) (l:=av) (i:=af) (x:=gi) O O (⟨_,O,O,gg⟩:Rd _ _ AN.int _ ck) ec ee LG.id Ae (λ_=>rfl) ed (.tail (.tail (.tail (.tail (.tail (.tail (.tail (.tail (.tail .head))))))))) λko ef gj=>AX (kp [43,2,0,44] O) (BJ (AG (.inl O) (Ap O O O (AB O O (AD (kp [44,43,2,0] O) (WF.nil (λaa ww hf hw=>?_)))))))
   have eg:=cg.trans ((SN.ext C.1 cj).trans (gc.trans (gh.trans gj)))
   exact⟨(BD (af+1)),(upd au af bw),(upd av af ck),_,_,hf.sub (kp [43,2,0,44] O),hw,ef,eg,(BG _),E⟩
  have E:=BV bv E
  refine BB O (λaa ww hf hw=>?_)
  have eh:=C.sel [1,1,1,1,1,1,1,1,1,1] 1 O
  exact⟨au,av,_,_,hf.sub (kp [0] O),hw,eh,cg,E⟩
 rintro aa ww ⟨ao,ap,cl,cm,hf,hw,b1,cn,E⟩
 refine Ad ?_ hf hw
 clear hf hw ww aa
 rw[CS] at E
 refine AA (AG (.inl O) (AB O O (CI O O (AL O Fq O (AL O Ft O (AS A3 b1 O (mt (mt mh)) O Ir O ?_))))))
 have ei:=e4.trans ((SX.ext H.1 a8 (WG ax)).trans (bs.trans cn))
 have co:=bb.mono' ei
 refine Ag O co G4 O λkq=>AB O O (AD (kp [89,88,87,0] O) (A6 (Ay (λn2=>λa w=>∃(am:Int) (aw:List Ak),IV B cl cm (123,[]) a w [(88,.int .i64 (↑p0_w.b.Links.length:Int)),(87,I),(0,.pointer (some ⟨c,0,none⟩)),(89,.int .i64 am)] (OS An 60 (.slice ai ah.2.length ag) ah.2::OS (AN.sl AN.int) 29 g ao::Bx c 84 [.string p0_w.b.Name,W,.int .i64 p0_w.b.Cells,Y,I,Z,ab,ac,ad,ae,.int .i64 p0_w.b.Err,J,K,M,Q,U,.int .i64 p0_w.s.Hour,g,t,(.slice ai ah.2.length ag),D,u,y,z,G,A]::OS AN.int 3 t p0_w.s.Rem::OS A4 69 D aw::OS AN.int 3 u p0_w.s.In::OS AN.int 3 y p0_w.s.Out::OS BT 50 z p0_w.moves::OS AN.int 3 G ap::OS An 60 A p0_w.sent::L) λ_ _=>AI am∧CF N p0_w ah ao ap n2 am aw=some r) N ?_ ?_ ?_)))
 ·intro aa ww hf hw
  exact⟨0,p0_w.s.Gates,_,_,hf.sub (kp [88,87,0,89] O),hw,b1,(B8.refl cl cm),(iq (n:=0) O),E⟩
 ·rintro aa ww ⟨_,_,_,_,_,_,_,_,_,E⟩
  rw[CF] at E;cases E
 rintro n2 aa ww ⟨am,aw,gk,gl,hf,hw,a7,b2,kr,E⟩
 refine Ad ?_ hf hw
 clear hf hw ww aa
 rw[CF] at E
 refine AA (AG (.inl O) (A0 O O O (AD (kp [90,88,87,0,89] O) (AA (AW O (λb3=>?_) (λb3=>?_))))))
 ·have E:=BU b3 E
  refine AT (AA (Aj (λa w=>∃(a9:List Ak),IV B gk gl (123,[]) a w [(88,.int .i64 (↑p0_w.b.Links.length:Int)),(87,I),(0,.pointer (some ⟨c,0,none⟩)),(89,.int .i64 am)] (OS An 60 (.slice ai ah.2.length ag) ah.2::OS (AN.sl AN.int) 29 g ao::Bx c 84 [.string p0_w.b.Name,W,.int .i64 p0_w.b.Cells,Y,I,Z,ab,ac,ad,ae,.int .i64 p0_w.b.Err,J,K,M,Q,U,.int .i64 p0_w.s.Hour,g,t,(.slice ai ah.2.length ag),D,u,y,z,G,A]::OS AN.int 3 t p0_w.s.Rem::OS A4 69 D a9::OS AN.int 3 u p0_w.s.In::OS AN.int 3 y p0_w.s.Out::OS BT 50 z p0_w.moves::OS AN.int 3 G ap::OS An 60 A p0_w.sent::L) λ_ _=>Et N am (CF N p0_w ah ao ap n2) a9=some r) ?_ ?_))
  ·refine AA (Am (AJ 3 (AB O O ?_)))
   have gm:=co.mono' b2
   obtain⟨d,ej,E⟩:=bd E
   refine A8 O O gm G4 ej O λks gn=>Bw A3 a7.1 O gn F8 (λe=>by cases e) O λkt gp=>AE (Cg M0 O a7 λku kv ek b4=>AJ 1 (AF O O (AE ?_)))
   have gq:=gp.mono b4
   obtain⟨b5,b6,b7,rfl,gr,gs,gt,gu,cp,cq,cr,gw,gx,gy,gz,g0,g1,g2,g3,g4,g5,g6⟩:=Bh.ex gq
   refine Ge (vs:=[.string d.Name,.int .i64 d.Kind,.int .i64 d.From,.int .i64 d.To,b5,b6,b7,.int .i64 d.Positions,.int .i64 d.Speed,.int .i64 d.Leak,.int .i64 d.Crest,.int .i64 d.Num,.int .i64 d.Den,.int .i64 d.Prime,.int .i64 d.Break,.int .i64 d.BackNum,.int .i64 d.BackDen,.int .i64 d.Delay]) (cs':=[.string d.Name,.int .i64 d.Kind,.int .i64 d.From,.int .i64 d.To,b5,b6,b7,.int .i64 d.Positions,.int .i64 d.Speed,.int .i64 d.Leak,.int .i64 d.Crest,.int .i64 d.Num,.int .i64 d.Den,.int .i64 d.Prime,.int .i64 d.Break,.int .i64 d.BackNum,.int .i64 d.BackDen,.int .i64 d.Delay]) O O O (AH O (AH O (AH O (AH O (AH cp.one (AH cq.one (AH cr.one (AH O (AH O (AH O (AH O (AH O (AH O (AH O (AH O (AH O (AH O (AH O D2)))))))))))))))))) F8 O ek .head O O λkw V a1=>AX (kp [5,6,88,87,0,89] O) (AA (AG (.inl O) (AL O Fs O (AS A3 V O mh O Ae O (Bd O O O (AD (kp [96,5,6,88,87,0,89] O) (AW O (λb8=>?_) (λb8=>?_))))))))
   ·have E:=BU b8 E
    refine JM 25 mo (by kernel_rfl) O V (AB O O (CI O O (AL O CV O (AL O Fb O (AS BZ V O (mt (mt (mt mh))) O IQ O (AB O O (Cj (vs:=[.string d.Name,.int .i64 d.Kind,.int .i64 d.From,.int .i64 d.To,b5,b6,b7,.int .i64 d.Positions,.int .i64 d.Speed,.int .i64 d.Leak,.int .i64 d.Crest,.int .i64 d.Num,.int .i64 d.Den,.int .i64 d.Prime,.int .i64 d.Break,.int .i64 d.BackNum,.int .i64 d.BackDen,.int .i64 d.Delay]) BZ V O mh O O F8 O O (AB O O (CI O O (AL O CV O (AL O Fb O (AS BZ V O (mt (mt (mt mh))) O IQ O (AB O O ?_)))))))))))))
    obtain⟨kx,el,E⟩:=bd E
    refine A5 V (mt (mt (mt (mt (mt mh))))) O O IL el O λky em=>?_
    obtain⟨kz,en,E⟩:=bd E
    have g7:=V.epAt (mt (mt (mt (mt (mt mh))))) en El.id em
    refine Bw BZ (λ_ x=>x) O g7 Eo (λe=>by cases e) O λk0 g8=>AB O O (CI O O (AL O JQ O (AS BZ V O (mt (mt (mt mh))) O BY O (AL O Id O (AS BZ V O mh O Ae O ?_)))))
    obtain⟨k1,eo,E⟩:=bd E
    refine A5 V (mt (mt (mt (mt (mt (mt (mt (mt (mt mh))))))))) O O BP eo O λk2 ep=>?_
    obtain⟨k3,eq,E⟩:=bd E
    have g9:=V.epAt (mt (mt (mt (mt (mt (mt (mt (mt (mt mh))))))))) eq El.id ep
    refine Af BZ (λ_ x=>x) O g9 Ae O λha=>?_
    have hc:=cp.mono' a1
    have hd:=cq.mono' a1
    have he:=cr.mono' a1
    obtain⟨cs,er,E⟩:=bd E
    refine CM O O O Xr O (λh' o=>LM (St.all h') (Bh.mk (x:=d) gr gs gt gu (hc.mono' (o.all V.1)) (hd.mono' (o.all V.1)) (he.mono' (o.all V.1)) gw gx gy gz g0 g1 g2 g3 g4 g5 g6) (g8.mono (o.all V.1)) ha er) λhg=>?_
    obtain⟨hi,hj⟩:=hg
    obtain⟨k4,es,E⟩:=bd E
    refine A5 V (mt (mt (mt (mt (mt mh))))) O O IL es O λk5 et=>IJ λk6 eu hk=>?_
    obtain⟨hl,ew,E⟩:=bd E
    refine Ef (r:=A4) (l:=aw) (i:=am) (x:=hl) O O (A4.mk (x:=cs) ⟨hi,hj⟩) et ew LG.id Eo (λe=>by cases e) eu (.tail (.tail (.tail (.tail (.tail .head))))) λk7 ey hm=>AX (kp [88,87,0,89] O) (WF.nil (λaa ww hf hw=>?_))
    have ez:=ey.sel [1,1,1,1,1,1,1,1,1,1] 1 O
    have e0:=b4.trans (a1.trans (hk.trans hm))
    exact⟨(upd aw am cs),_,_,hf.sub (kp [88,87,0,89] O),hw,ez,e0,E⟩
   have E:=BV b8 E
   refine AT (WF.nil (λaa ww hf hw=>?_))
   have e1:=V.sel [1,1,1,1,1,1,1,1,1,1] 1 O
   exact⟨aw,_,_,hf.sub (kp [88,87,0,89] O),hw,e1,(b4.trans a1),E⟩
  rintro aa ww ⟨a9,k8,k9,hf,hw,e2,hn,E⟩
  refine Ad ?_ hf hw
  clear hf hw ww aa
  rw[Et] at E
  refine AG (.inl O) (Ap O O O (AB O O (AD (kp [89,88,87,0] O) (WF.nil (λaa ww hf hw=>?_)))))
  exact⟨(BD (am+1)),a9,_,_,hf.sub (kp [88,87,0,89] O),hw,e2,(b2.trans hn),(BG _),E⟩
 have E:=BV b3 E
 refine KI O (WF.nil (λaa ww hf hw=>?_))
 have e3:=a7.sel [2,1,1,0,0,0,0,0,0,0] 0 O
 cases E
 have e5:=e4.trans ((SX.ext H.1 a8 (WG ax)).trans (bs.trans (cn.trans b2)))
 exact Jn hf O hw Jm O e5 ⟨_,_,_,_,O,e3⟩
theorem Kq (hs:St S L h) {j:Value}{d:(List Int)}(o:Sl S h AN.int j d) {b:Value}{c:(List Int)}(k:Sl S h AN.int b c) {r:(List Int)}(E:HH N d c=some r):
 CG Tryz.prog 96 #[j,b] S h (λv S' h'=>St S' (OS AN.int 3 v r::L) h'):=by
 refine BC (l:=[j,b]) 30 Tryz.func96 O Tryz.ntmps96 O λB=>?_
 rw[HH] at E
 refine AA (AG (.inl O) (AF O O (AD (kp [0,1] O) (AA (Am (AJ 2 (AB O O (Ag O o BP O λb1=>AE ?_))))))))
 obtain⟨W,E⟩:=Ly E
 refine Iq (r:=AN.int) (zx:=0) E4 O ⟨O,by unfold AI;omega⟩ O O W O O hs λV h4 X Y=>AJ 1 (AF O O (AE (AX (kp [5,0,1] O) (AA (Am (AJ 2 (AB O O (AB O O (AE ?_)))))))))
 have k7:=o.mono' Y
 refine Qv (r:=AN.int) (l:=(List.replicate ((↑d.length:Int):Int).toNat (0:Int))) (xs:=d) O O BP (Sl.src k7) O X .head λZ ab y=>AX (kp [5,1] O) (AA (AA (AG (.inl O) (AB O O ?_))))
 have z:=k.mono' (Y.trans y)
 refine Ag O z BP O λai=>AB O O (AD (kp [16,15,14,5] O) (Aj (λa w=>∃(s:List Int),IV B S Z (30,[]) a w [(5,V)] (OS AN.int 3 V s::L) λ_ _=>Fv N s=some r) ?_ ?_))
 ·refine Ay (λn1=>λa w=>∃(m:Int) (p:List Int),IV B S Z (30,[]) a w [(15,.int .i64 (↑c.length:Int)),(14,b),(5,V),(16,.int .i64 m)] (OS AN.int 3 V p::L) λ_ _=>AI m∧EU N c (Fv N) n1 m p=some r) N ?_ ?_ ?_
  ·intro aa ww hf hw
   exact⟨0,(Lw (List.replicate ((↑d.length:Int):Int).toNat (0:Int)) d),_,_,hf.sub (kp [15,14,5,16] O),hw,ab,(B8.refl S Z),(iq (n:=0) O),E⟩
  ·rintro aa ww ⟨_,_,_,_,_,_,_,_,_,E⟩
   rw[EU] at E;cases E
  rintro n1 aa ww ⟨m,p,aj,ak,hf,hw,g,t,al,E⟩
  refine Ad ?_ hf hw
  clear hf hw ww aa
  rw[EU] at E
  refine AA (AG (.inl O) (A0 O O O (AD (kp [17,15,14,5,16] O) (AA (AW O (λu=>?_) (λu=>?_))))))
  ·have E:=BU u E
   refine AT (AA (A6 (AA (AG (.inl O) (AB O O ?_)))))
   have ac:=z.mono' t
   obtain⟨A,C,E⟩:=bd E
   refine A8 O O ac BP C O λam ad=>Af A3 g.1 O ad Ae O λan=>AF O O (AF O O (AD (kp [7,6,15,14,5,16] O) (Am (AJ 7 (AB O O (AB O O ?_))))))
   obtain⟨ao,D,E⟩:=bd E
   refine A5 g mh O O BP D O λap F=>?_
   obtain⟨G,H,E⟩:=bd E
   have ae:=g.epAt mh H El.id F
   refine Af A3 (λ_ x=>x) O ae Ae O λaq=>AB O O (Dg O O O ?_)
   obtain⟨ar,I,E⟩:=bd E
   refine A5 g mh O O BP I O λau J=>AE ?_
   obtain⟨af,K,E⟩:=bd E
   refine Ef (r:=AN.int) (l:=p) (i:=m) (x:=af) O O (⟨_,O,O,(BG _)⟩:Rd _ _ AN.int _ (BD (G-A))) J K LG.id Ae (λ_=>rfl) g .head λav M ag=>AX (kp [15,14,5,16] O) (BJ (AG (.inl O) (Ap O O O (AB O O (AD (kp [16,15,14,5] O) (WF.nil (λaa ww hf hw=>?_)))))))
   exact⟨(BD (m+1)),(upd p m (BD (G-A))),_,_,hf.sub (kp [15,14,5,16] O),hw,M,(t.trans ag),(BG _),E⟩
  have E:=BV u E
  refine BB O (λaa ww hf hw=>?_)
  exact⟨p,_,_,hf.sub (kp [5] O),hw,g,t,E⟩
 rintro aa ww ⟨s,aw,ax,hf,hw,Q,ah,E⟩
 refine Ad ?_ hf hw
 clear hf hw ww aa
 rw[Fv] at E
 refine AA (AG (.inl O) (AB O O (AF O O (AD (kp [4] O) (Ab (λaa ww hf hw=>?_))))))
 cases E
 have U:=Y.trans (y.trans ah)
 exact Dp hf hw O O U Q
theorem PW (hs:St S L h) {d:Value}{g:(List Int)}(m:Sl S h AN.int d g) {c:Int}(n:AI c) {j:Int}(u:AI j) {r:(List Int)×(List Int)}(E:Jf N g c j=some r):
 CG Tryz.prog 84 #[d,.int .i64 c,.int .i64 j] S h (λv S' h'=>∃D F:Value,v= .tuple #[D,F]∧St S' (OS AN.int 3 D r.1::OS AN.int 3 F r.2::L) h'):=by
 refine BC (l:=[d,.int .i64 c,.int .i64 j]) 27 Tryz.func84 O Tryz.ntmps84 O λB=>?_
 rw[Jf] at E
 refine AA (AG (.inl O) (AF O O (AF O O (AD (kp [0,1,2] O) (AA (Am (AJ 2 (AB O O (Ag O m BP O λb1=>AE ?_)))))))))
 obtain⟨W,E⟩:=Ly E
 refine Iq (r:=AN.int) (zx:=0) E4 O ⟨O,by unfold AI;omega⟩ O O W O O hs λv3 h4 G e6=>AJ 1 (AF O O (AE (AX (kp [6,0,1,2] O) (AA (AA (Bn (.inl O) G (AB O O (AB O O (AB O O ?_)))))))))
 have k7:=m.mono' e6
 obtain⟨y8,X,E⟩:=bd E
 refine CM O O O Xj O (λh' o=>NB (St.all h') (k7.mono' (o.all G.1)) n X) λr9=>?_
 have Y:=r9
 refine Qs O O O (AF O O (BK (kp [8,6,0,1] O) λH t Z=>AA (AG (.inl O) (AB O O (CE O O O (AD (kp [18,8,6,0,1] O) (GW (λa w=>∃(A:List Int),IV B S H (27,[]) a w [(6,v3),(0,d)] (OS AN.int 3 v3 A::L) λ_ _=>HI N g A=some r) ?_ ?_)))))))
 ·refine AW O (λC=>?_) (λC=>?_)
  ·have E:=BU C E
   refine Am (AJ 4 (AB O O (AB O O (AB O O ?_))))
   obtain⟨ai,I,E⟩:=bd E
   refine A5 t mh O O BP I O λaj J=>AE ?_
   obtain⟨ab,K,E⟩:=bd E
   refine Ef (r:=AN.int) (l:=(List.replicate ((↑g.length:Int):Int).toNat (0:Int))) (i:=c) (x:=ab) O O (⟨_,O,O,(Ks u Y)⟩:Rd _ _ AN.int _ (min j y8)) J K LG.id Ae (λ_=>rfl) t .head λak M ac=>AX (kp [6,0] O) (WF.nil (λaa ww hf hw=>?_))
   exact⟨(upd (List.replicate ((↑g.length:Int):Int).toNat (0:Int)) c (min j y8)),_,_,hf.sub (kp [6,0] O),hw,M,ac,E⟩
  have E:=BV C E
  refine AT (WF.nil (λaa ww hf hw=>?_))
  exact⟨(List.replicate ((↑g.length:Int):Int).toNat (0:Int)),_,_,hf.sub (kp [6,0] O),hw,t,(B8.refl S H),E⟩
 rintro aa ww ⟨A,al,am,hf,hw,s,ad,E⟩
 refine Ad ?_ hf hw
 clear hf hw ww aa
 rw[HI] at E
 refine AA (Am (AJ 3 (AB O O (AB O O (AB O O (AE ?_))))))
 have y:=e6.trans (Z.trans ad)
 have ae:=m.mono' y
 obtain⟨an,Q,E⟩:=bd E
 refine Bb O O O Xd O s (Kq (St.all _) (ae.mono (λb hb=>s.1 b hb) (λ_ _=>rfl)) (s.oslAll mh) Q) λao ap aq ah af ag p=>?_
 have U:=p
 have z:=s.join ag U ⟨OS.flat (λ{_ _ _ _ _ _} k=>k),trivial⟩
 simp only[List.cons_append,List.nil_append] at z
 refine AJ 2 (AF O O (AF O O (AE (AX (kp [7,6] O) (Ab (λaa ww hf hw=>?_))))))
 have V:=z.sel [1,0] 0 O
 cases E
 exact Jn hf O hw (Hn (qQ hf (v:=_) O) (Hn (qQ hf (v:=_) O) Jm)) O (y.trans af) ⟨_,_,O,V⟩
end Go.Proofs.YtblcgjadhemlbaaGreat
