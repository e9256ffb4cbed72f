import Derived.Test.YtibidnaedddfdaaGreatAWalk4
namespace Go.Proofs.YtibidnaedddfdaaGreat
open Go.RowKit
set_option linter.unusedVariables false
set_option linter.unusedSimpArgs false
set_option maxRecDepth 10000
set_option maxHeartbeats 2000000
variable {N:Nat}{S:Nat→Prop}{L:List HP}{h:Ad}
theorem N7 (hs:St S L h) {a0:Value}{c:AJ}(cl:Rd S h A3 a0 c) {a1:Value}{d:Aq}(cm:Rd S h Bj a1 d) {af:Value}{a8:DF}(b1:Rd S h GY af a8) {y:Value}{a4:(List Bool)}(a9:Sl S h AW.bool y a4) {A:Value}{a5:(List AF)}(ba:Sl S h AK A a5) {r:Aq×(List AF)×(List AF)}(E:Kw N c d a8 a4 a5=some r):
 BP Tryz.prog 12 #[a0,a1,af,y,A] S h (λv S' h'=>∃fb fc fd:Value,v= .tuple #[fb,fc,fd]∧Rd S' h' Bj fb r.1∧St S' (OS AK 51 fc r.2.1::OS AK 51 fd r.2.2::L) h'):=by
 refine Ac (l:=[a0,a1,af,y,A]) 67 Tryz.func12 O Tryz.ntmps12 O λB=>?_
 rw[Kw] at E
 refine WF.seq (WF.rl (LF.boxp O cl (λe=>by cases e) O hs λq1 S2 h3 h9 e5 k6=>?_))
 have k7:=cm.mono e5
 obtain⟨lo,fe,ia,rfl,r9,ib,ic,ie⟩:=Bj.ex k7
 refine LF.box O O O h9 λig lp ff bt=>?_
 have ih:=b1.mono (e5.trans bt)
 refine LF.boxp O ih (λe=>by cases e) O ff λfg cn lq fh b2 ii=>LF.al OC O fh λbu lr bc bv=>LF.q 2 (QF.as_ O O (QF.as_ O O (AE (LF.nil (kp [10,7,6,5,3,4] O) (WF.seq (WF.rl (LF.q 2 (QF.fao O GX O (AI Aa bc O (mt mh) O Fq O (AE ?_))))))))))
 have cy:=bt.trans (b2.trans bv)
 have ij:=ib.mono' cy
 obtain⟨ae,fi,E⟩:=bd E
 refine LF.callb O O O X8 O bc (FH (St.all _) (ij.mono (λb hb=>bc.1 b hb) (λ_ _=>rfl)) fi) λls lt lu iv bw ik p=>?_
 have fj:=p
 have b3:=bc.join ik fj ⟨OS.flat (λ{_ _ _ _ _ _} k=>k),trivial⟩
 simp only[List.cons_append,List.nil_append] at b3
 refine LF.q 1 (QF.fao O GX O (AE ?_))
 obtain⟨H,C,rfl,lv⟩:=b3.oslen mh
 refine HT (vs:=[(.slice H ae.length C)]) (cs':=[.int .i64 d.Hour,(.slice H ae.length C),fe,ia]) O O O O Fq O b3 (.tail (.tail .head)) O O λlw be bx=>LF.nil (kp [10,7,6,5,3,4] O) (WF.seq (WF.rl (LF.q 2 (QF.fao O FV O (AI Aa be O (mt (mt mh)) O H9 O (AE ?_))))))
 have cz:=cy.trans (bw.trans bx)
 have il:=ie.mono' cz
 obtain⟨a6,fk,E⟩:=bd E
 refine LF.callb O O O X7 O be (E7 (St.all _) (il.mono (λb hb=>be.1 b hb) (λ_ _=>rfl)) fk) λlx ly lz iw bz im p=>?_
 have fl:=p
 have b4:=be.join im fl ⟨OS.flat (λ{_ _ _ _ _ _} k=>k),trivial⟩
 simp only[List.cons_append,List.nil_append] at b4
 refine LF.q 1 (QF.fao O FV O (AE ?_))
 obtain⟨ag,F,rfl,l0⟩:=b4.oslen mh
 refine HT (vs:=[(.slice ag a6.length F)]) (cs':=[.int .i64 d.Hour,(.slice H ae.length C),fe,(.slice ag a6.length F)]) O O O O H9 O b4 (.tail (.tail (.tail .head))) O O λfm g b0=>LF.nil (kp [10,7,6,5,3,4] O) (WF.seq ?_)
 have c0:=cz.trans (bz.trans b0)
 have fn:=ic.mono' c0
 obtain⟨a7,ah,rfl,l1⟩:=(fn).len
 obtain⟨fo,E⟩:=O4 E
 refine PB (m:=[(10,.pointer (some ⟨bu,0,none⟩)),(7,fg),(6,.pointer (some ⟨ig,0,none⟩)),(5,q1),(3,y),(4,A)]) [8] [] [5,7] ⟨[(6,[24,25,29])],λi l=>match i,l with|6,[some io,some ip,some ir]=>some (.agg (io.cells.toList++ip.cells.toList++[ir]).toArray)|_,_=>none⟩ (by kernel_rfl) (by kernel_rfl) (λi v hh=>match i with|0=>Rd cn hh A3 v c|1=>v= .agg #[.int .i64 d.Hour,(.slice H ae.length C),(.slice a7 d.Queue.length ah),(.slice ag a6.length F)]∧AB d.Hour|2=>Pt cn hh (AW.sl A7) v c.Places|3=>Sl cn hh A7 v c.Places|4=>v= .int .i64 (↑c.Places.length:Int)∧AB (↑c.Places.length:Int)|5=>RS cn fm AK 51 (List.replicate ((↑c.Places.length:Int):Int).toNat ((⟨0,0⟩:AF):AF)) v hh|6=>True|7=>PM fm 106 [.string ByteArray.empty,.slice none 0 0,.int .i64 0,.slice none 0 0,.slice none 0 0,.slice none 0 0,.slice none 0 0,.slice none 0 0,.slice none 0 0,.slice none 0 0,.int .i64 0,.int .i64 0,.slice none 0 0,.slice none 0 0,.slice none 0 0,.slice none 0 0] v hh|_=>False) [[],[],[],[(2,26)],[(3,27)],[(4,28)],[(0,24),(1,25),(5,29)],[],[]] [(0,24),(1,25),(5,29),(6,30),(7,13)] mo (by kernel_rfl) [10,7,6,5,3,4] O (by kernel_rfl) (by kernel_rfl) (by kernel_rfl) O (kp [10,7,6,5,3,4] O) (λi v h1 h2 o1 o2 hr=>?_) (by kernel_rfl) (JY O (Jv (T:=106) O Nz)) ?_ ?_ ?_
 ·match i,hr with
   |0,hr=>exact Rd.mono hr (o2.ext λb hb=>Nat.lt_of_lt_of_le (g.1 b hb) o1.siz)
   |1,hr=>exact hr
   |2,hr=>exact KW.mono hr (o2.ext λb hb=>Nat.lt_of_lt_of_le (g.1 b hb) o1.siz)
   |3,hr=>exact Sl.mono' hr (o2.ext λb hb=>Nat.lt_of_lt_of_le (g.1 b hb) o1.siz)
   |4,hr=>exact hr
   |5,hr=>exact hr.mono g.1 o2
   |6,hr=>exact hr
   |7,hr=>exact hr.mono o2
   |_+8,hr=>exact hr.elim
 ·exact trivial
 ·
  refine Ae.cons O O O ?_ ?_
  ·
   intro mq hh o
   have hsN:=o.st g
   refine LF.q 1 ?_
   have fp:=k6.mono (bt.trans (b2.trans (bv.trans (bw.trans (bx.trans (bz.trans (b0.trans (o.ext g.1))))))))
   exact QF.ld Aa hsN.1 O fp D1 (λe=>by cases e) O λiy fq=>AE (AD (Ap.refl _) fq)
  refine Ae.cons O O O ?_ ?_
  ·
   intro mq hh o
   have hsN:=o.st g
   exact LF.q 1 (QF.ldo (vs:=[.int .i64 d.Hour,(.slice H ae.length C),(.slice a7 d.Queue.length ah),(.slice ag a6.length F)]) Aa hsN O (mt (mt (mt mh))) O O Zx O O (AE (AD (Ap.refl _) ⟨O,r9⟩)))
  refine Ae.cons O O O ?_ ?_
  ·
   intro mq hh o
   have hsN:=o.st g
   refine LF.q 1 ?_
   have fr:=k6.mono (bt.trans (b2.trans (bv.trans (bw.trans (bx.trans (bz.trans (b0.trans (o.ext g.1))))))))
   exact QF.fa O fr Ah Bs O λiz fs=>AE (AD (Ap.refl _) fs)
  refine Ae.cons O O O ?_ ?_
  ·
   intro mq hh o
   intro ft b5
   have hsN:=o.st g
   have b5:Pt _ _ (AW.sl A7) ft c.Places:=b5
   exact LF.q 1 (QF.ldl Aa hsN.1 O b5 EY O λi0 fu=>AE (AD (Ap.refl _) fu))
  refine Ae.cons O O O ?_ ?_
  ·
   intro mq hh o
   intro fv b6
   have hsN:=o.st g
   have b6:Sl _ _ A7 fv c.Places:=b6
   exact LF.q 1 (QF.len O b6 Dk O λfw=>AE (AD (Ap.refl _) ⟨O,(IJ fw)⟩))
  refine Jb O O O ?_ ?_
  ·
   intro mq hh o
   intro i1 fx
   have hsN:=o.st g
   obtain⟨rfl,i2⟩:=fx
   exact Mr (r:=AK) (zx:=(⟨0,0⟩:AF)) Nm O ⟨O,by unfold AF.ok AB;simp [IntKind.has,IntKind.min,IntKind.max,IntKind.bits,IntKind.signed]⟩ O O fo O O o g.1 λv' h' o' r' f'=>AD o' ⟨r',f'⟩
  refine Ae.z [24,25,29] O O O (by kernel_rfl) ?_ ?_
  ·
   intro mq hh o
   intro fy b7 i3 fz i4 c1
   have hsN:=o.st g
   have b7:Rd _ _ A3 fy c:=b7
   obtain⟨rfl,i5⟩:=fz
   obtain⟨f0,co,rfl,c1⟩:=c1
   refine LF.q 1 ?_
   obtain⟨i6,i7,i8,i9,ja,jb,jc,jd,rfl,je,f1,jf,f2,f3,f4,f5,f6,f7,f8,jg⟩:=A3.ex b7
   obtain⟨d7,cp,rfl,jh⟩:=(f1).len
   obtain⟨d8,cq,rfl,ji⟩:=(f2).len
   obtain⟨d9,cr,rfl,jj⟩:=(f3).len
   obtain⟨ea,ct,rfl,jk⟩:=(f4).len
   obtain⟨eb,cu,rfl,jl⟩:=(f5).len
   obtain⟨ec,cv,rfl,jm⟩:=(f6).len
   obtain⟨ed,cw,rfl,jn⟩:=(f7).len
   obtain⟨ee,cx,rfl,jo⟩:=(f8).len
   exact QF.bld (cs:=[.string c.Name,(.slice d7 c.Owners.length cp),.int .i64 c.Cells,(.slice d8 c.Places.length cq),(.slice d9 c.Links.length cr),(.slice ea c.Towns.length ct),(.slice eb c.Gauges.length cu),(.slice ec c.Roads.length cv),(.slice ed c.Shelters.length cw),(.slice ee c.Room.length cx),.int .i64 c.Err,.int .i64 d.Hour,(.slice H ae.length C),(.slice a7 d.Queue.length ah),(.slice ag a6.length F),(.slice (some ⟨f0,0,none⟩) (List.replicate ((↑c.Places.length:Int):Int).toNat ((⟨0,0⟩:AF):AF)).length co)]) Vk O O O (AE (AD (Ap.refl _) ⟨trivial,O,O⟩))
  exact Ae.al O Vb O O (Ae.skip (by kernel_rfl) (trivial))
 intro jp aw f9 b8 jq ga jr gb gc js jt ge ef eg
 obtain⟨c2,bf,rfl,gf,gg,gh⟩:=gb
 obtain⟨ab,rfl,gi,gj,gk⟩:=ge
 have eh:=(MY.cons (Ii (MY.nil g aw) gf gg gh List.not_mem_nil) gi gj gk (OL (ef.of_ (s:=13) (s':=29) (by kernel_rfl) O O O O) List.not_mem_nil)).st
 have b8:Rd _ _ A3 f9 c:=b8
 obtain⟨rfl,bg⟩:=ga
 obtain⟨ju,jv,jw,jx,jy,jz,j0,j1,rfl,bh,c3,bi,c4,c5,c6,c7,c8,c9,da,bj⟩:=A3.ex b8
 obtain⟨ai,I,rfl,j2⟩:=(c3).len
 obtain⟨aj,J,rfl,j3⟩:=(c4).len
 obtain⟨ak,K,rfl,j4⟩:=(c5).len
 obtain⟨am,M,rfl,j5⟩:=(c6).len
 obtain⟨an,Q,rfl,j6⟩:=(c7).len
 obtain⟨ao,U,rfl,j7⟩:=(c8).len
 obtain⟨ap,V,rfl,j8⟩:=(c9).len
 obtain⟨aq,W,rfl,j9⟩:=(da).len
 obtain rfl:gc=Value.agg #[.string c.Name,(.slice ai c.Owners.length I),.int .i64 c.Cells,(.slice aj c.Places.length J),(.slice ak c.Links.length K),(.slice am c.Towns.length M),(.slice an c.Gauges.length Q),(.slice ao c.Roads.length U),(.slice ap c.Shelters.length V),(.slice aq c.Room.length W),.int .i64 c.Err,.int .i64 d.Hour,(.slice H ae.length C),(.slice a7 d.Queue.length ah),(.slice ag a6.length F),(.slice (some ⟨c2,0,none⟩) (List.replicate ((↑c.Places.length:Int):Int).toNat ((⟨0,0⟩:AF):AF)).length bf)]:=(Option.some.inj (eg _ List.mem_cons_self 30 _ (by kernel_rfl) O O)).symm
 refine Aj (vs:=[.string c.Name,(.slice ai c.Owners.length I),.int .i64 c.Cells,(.slice aj c.Places.length J),(.slice ak c.Links.length K),(.slice am c.Towns.length M),(.slice an c.Gauges.length Q),(.slice ao c.Roads.length U),(.slice ap c.Shelters.length V),(.slice aq c.Room.length W),.int .i64 c.Err,.int .i64 d.Hour,(.slice H ae.length C),(.slice a7 d.Queue.length ah),(.slice ag a6.length F),(.slice (some ⟨c2,0,none⟩) (List.replicate ((↑c.Places.length:Int):Int).toNat ((⟨0,0⟩:AF):AF)).length bf)]) O O O O Vg O eh .head O λka b9 j=>LF.nil (kp [13,10,7,5,3,4] O) (WF.seq (WF.rl (LF.q 2 ?_)))
 have ei:=bv.trans (bw.trans (bx.trans (bz.trans (b0.trans ((aw.ext g.1).trans j)))))
 have db:=ii.mono ei
 refine QF.ld Aa b9.1 O db W6 (λe=>by cases e) O λkb gl=>QF.mv O O (AE ?_)
 have ej:=b9.sel [0,2,1,0,0,0] 0 O
 have dc:=c3.mono' j
 have dd:=c4.mono' j
 have de:=c5.mono' j
 have df:=c6.mono' j
 have dg:=c7.mono' j
 have dh:=c8.mono' j
 have di:=c9.mono' j
 have dj:=da.mono' j
 have dk:=fn.mono' ((aw.ext g.1).trans j)
 have ca:=e5.trans (bt.trans (b2.trans (bv.trans (bw.trans (bx.trans (bz.trans (b0.trans ((aw.ext g.1).trans j))))))))
 have gm:=a9.mono' ca
 obtain⟨gp,ek,E⟩:=bd E
 refine LF.call O O O X6 O (LR (p0_w:=(⟨c,(⟨d.Hour,ae,d.Queue,a6⟩:Aq),(List.replicate ((↑c.Places.length:Int):Int).toNat ((⟨0,0⟩:AF):AF))⟩:Ao)) ej bh dc bi dd de df dg dh di dj bj bg dk gl gm ek) λkc kd ke t p=>?_
 obtain⟨kf,rfl,el⟩:=p
 refine LF.nil (kp [13,10,7,5,4] O) (WF.seq (WF.rl (LF.q 1 (QF.mv O O (AE ?_)))))
 have dl:=dc.mono' t
 have dm:=dd.mono' t
 have dn:=de.mono' t
 have dp:=df.mono' t
 have dq:=dg.mono' t
 have dr:=dh.mono' t
 have ds:=di.mono' t
 have dt:=dj.mono' t
 have gq:=dk.mono' t
 have gr:=ba.mono' (ca.trans t)
 obtain⟨u,em,E⟩:=bd E
 refine LF.call O O O X5 O (Jj (p0_w:=(⟨c,(⟨d.Hour,ae,d.Queue,gp⟩:Aq),(List.replicate ((↑c.Places.length:Int):Int).toNat ((⟨0,0⟩:AF):AF))⟩:Ao)) el bh dl bi dm dn dp dq dr ds dt bj bg gq gr em) λkg cb kh bk p=>?_
 obtain⟨gs,X,ar,rfl,cc⟩:=p
 refine LF.nil (kp [13,10,7,5] O) (WF.seq (WF.rl (LF.q 3 ?_)))
 have en:=c0.trans ((aw.ext g.1).trans (j.trans (t.trans bk)))
 have du:=k6.mono en
 refine QF.fa O du Ah Bs O λki gu=>QF.ldl Aa cc.1 O gu EY O λkj gv=>QF.len O gv Dk O λkk=>AE ?_
 obtain⟨eo,E⟩:=O4 E
 refine LF.mke (r:=AK) (zx:=(⟨0,0⟩:AF)) Nm O ⟨O,by unfold AF.ok AB;simp [IntKind.has,IntKind.min,IntKind.max,IntKind.bits,IntKind.signed]⟩ O O eo O O cc λau cd ce bl=>LF.q 1 (QF.as_ O O (AE (LF.nil (kp [14,13,10,7,5] O) (WF.seq (WF.seq (WF.rp (.inl O) ?_))))))
 have gw:=du.mono bl
 refine QF.fa O gw Ah Bs O λkl gx=>QF.ldl Aa ce.1 O gx EY O λkm gz=>QF.len O gz Dk O λkn=>QF.mv O O (AA (kp [43,42,14,13,10,7] O) (WF.blockJ (λa w=>∃(cf:List AF) (ac:Value) (bm:List AF) (ad:Value) (bn:List Ay),IV B cb cd (67,[]) a w [(14,au),(13,.pointer (some ⟨ab,0,none⟩)),(10,.pointer (some ⟨bu,0,none⟩))] (OS AK 51 ac bm::OS BE 93 ad bn::OS AK 51 au cf::Bx ab 106 [.string c.Name,(.slice ai c.Owners.length I),.int .i64 c.Cells,(.slice aj c.Places.length J),(.slice ak c.Links.length K),(.slice am c.Towns.length M),(.slice an c.Gauges.length Q),(.slice ao c.Roads.length U),(.slice ap c.Shelters.length V),(.slice aq c.Room.length W),.int .i64 c.Err,.int .i64 d.Hour,ac,ad,X,ar]::OS Ab 97 X u.2.1::OS AK 51 ar u.2.2::Bx bu 36 [.int .i64 0,.slice none 0 0,.slice none 0 0,.slice none 0 0]::L) λ_ _=>Hl N d u cf bm bn=some r) ?_ ?_))
 ·
  refine WF.loopF (λn1=>λa w=>∃(av:Int) (ax:List AF) (bo:Value) (ay:List AF) (bp:Value) (az:List Ay),IV B cb cd (67,[]) a w [(42,.int .i64 (↑c.Places.length:Int)),(14,au),(13,.pointer (some ⟨ab,0,none⟩)),(10,.pointer (some ⟨bu,0,none⟩)),(7,fg),(43,.int .i64 av)] (OS AK 51 bo ay::OS BE 93 bp az::OS AK 51 au ax::Bx ab 106 [.string c.Name,(.slice ai c.Owners.length I),.int .i64 c.Cells,(.slice aj c.Places.length J),(.slice ak c.Links.length K),(.slice am c.Towns.length M),(.slice an c.Gauges.length Q),(.slice ao c.Roads.length U),(.slice ap c.Shelters.length V),(.slice aq c.Room.length W),.int .i64 c.Err,.int .i64 d.Hour,bo,bp,X,ar]::OS Ab 97 X u.2.1::OS AK 51 ar u.2.2::Bx bu 36 [.int .i64 0,.slice none 0 0,.slice none 0 0,.slice none 0 0]::L) λ_ _=>AB av∧Gh N c d a8 u (Hl N d u) n1 av ax ay az=some r) N ?_ ?_ ?_
  ·
   intro aa ww hf hw
   have ep:=ce.sel [2,2,0,0,0,0,0] 1 O
   exact⟨0,(List.replicate ((↑c.Places.length:Int):Int).toNat (⟨0,0⟩:AF)),(.slice H ae.length C),ae,gs,u.1,_,_,hf.sub (kp [42,14,13,10,7,43] O),hw,ep,(BO.refl cb cd),(iq (n:=0) O),E⟩
  ·
   rintro aa ww ⟨_,_,_,_,_,_,_,_,_,_,_,_,_,E⟩
   rw[Gh] at E;cases E
  ·
   rintro n1 aa ww ⟨av,ax,bo,ay,bp,az,ko,kq,hf,hw,bb,bq,dv,E⟩
   refine WF.run ?_ hf hw
   clear hf hw ww aa
   rw[Gh] at E
   refine WF.seq (WF.rp (.inl O) (QF.lss O O O (AA (kp [44,42,14,13,10,7,43] O) (WF.seq (WF.if_ O (λcg=>?_) (λcg=>?_))))))
   ·
    have E:=Av cg E
    refine WF.skip (WF.seq (WF.block (WF.seq (WF.rp (.inl O) (QF.mv O O (QF.as_ O O (AA (kp [15,42,14,13,10,7,43] O) (WF.rl (LF.q 6 (QF.mv O O (QF.mv O O (QF.mv O O (QF.mv O O ?_)))))))))))))
    have eq:=t.trans (bk.trans (bl.trans bq))
    have g0:=db.mono eq
    refine QF.fa O g0 K7 Q7 O λkr g1=>QF.ldl Aa bb.1 O g1 U5 O λks g2=>AE ?_
    have er:=bb.sel [3,0,0,1,1,0,0] 0 O
    have D:=bk.trans (bl.trans bq)
    have dw:=dl.mono' D
    have dx:=dm.mono' D
    have dy:=dn.mono' D
    have dz:=dp.mono' D
    have d0:=dq.mono' D
    have d1:=dr.mono' D
    have d2:=ds.mono' D
    have d3:=dt.mono' D
    obtain⟨kt,es,E⟩:=bd E
    refine LF.call O O O X3 O (LT (p0_w:=(⟨c,(⟨d.Hour,ay,az,u.2.1⟩:Aq),u.2.2⟩:Ao)) er bh dw bi dx dy dz d0 d1 d2 d3 bj bg dv g2 es) λku kv kw Y p=>?_
    have et:=p
    obtain⟨kx,eu,Z,g3⟩:=et.pubs .head
    have g4:=dw.mono' (Y.trans Z)
    have g5:=dx.mono' (Y.trans Z)
    have g6:=dy.mono' (Y.trans Z)
    have g7:=dz.mono' (Y.trans Z)
    have g8:=d0.mono' (Y.trans Z)
    have g9:=d1.mono' (Y.trans Z)
    have ha:=d2.mono' (Y.trans Z)
    have hc:=d3.mono' (Y.trans Z)
    obtain⟨br,ev,E⟩:=bd E
    refine LF.call O O O X4 O (LS (p0_w:=(⟨c,(⟨d.Hour,ay,az,u.2.1⟩:Aq),u.2.2⟩:Ao)) eu bh g4 bi g5 g6 g7 g8 g9 ha hc bj bg dv g3 ev) λky kz k0 hd p=>?_
    obtain⟨he,hg,rfl,⟨hj,hk⟩,ch⟩:=p
    refine LF.q 1 ?_
    obtain⟨k1,ew,E⟩:=bd E
    refine QF.ixoe ch (mt (mt (mt (mt (mt mh))))) O O EM ew O λk2 ey=>AE ?_
    obtain⟨hl,ez,E⟩:=bd E
    refine LF.ste (r:=AK) (l:=ax) (i:=av) (x:=hl) O O (AK.mk (x:=br.1) ⟨hj,hk⟩) ey ez MS.id Ag (λe=>by cases e) ch (.tail (.tail (.tail (.tail (.tail .head))))) λk3 e0 hm=>LF.nil (kp [42,14,13,10,7,43] O) (Al (WF.rp (.inl O) (QF.addw O O O (QF.mv O O (AA (kp [43,42,14,13,10,7] O) (WF.nil (λaa ww hf hw=>?_)))))))
    have e1:=e0.sel [1,1,3,0,0,0,0] 0 O
    have e2:=bq.trans (Y.trans (Z.trans (hd.trans hm)))
    exact⟨(Ar (av+1)),(upd ax av br.1),he,br.2.1,hg,br.2.2,_,_,hf.sub (kp [42,14,13,10,7,43] O),hw,e1,e2,(Au _),E⟩
   ·
    have E:=Aw cg E
    refine WF.exit O (λaa ww hf hw=>?_)
    exact⟨ax,bo,ay,bp,az,_,_,hf.sub (kp [14,13,10] O),hw,bb,bq,E⟩
 ·
  rintro aa ww ⟨cf,ac,bm,ad,bn,k4,k5,hf,hw,ci,hn,E⟩
  refine WF.run ?_ hf hw
  clear hf hw ww aa
  rw[Hl] at E
  refine WF.seq (WF.rl (LF.q 6 (QF.fao O Do O (QF.fao O Ia O (AI Aa ci O (mt (mt (mt mh))) O AN O (QF.addw O O O (QF.fao O Do O (QF.fao O Ia O (AE (HT (vs:=[.int .i64 (Ar (d.Hour+1))]) (cs':=[.string c.Name,(.slice ai c.Owners.length I),.int .i64 c.Cells,(.slice aj c.Places.length J),(.slice ak c.Links.length K),(.slice am c.Towns.length M),(.slice an c.Gauges.length Q),(.slice ao c.Roads.length U),(.slice ap c.Shelters.length V),(.slice aq c.Room.length W),.int .i64 c.Err,.int .i64 (Ar (d.Hour+1)),ac,ad,X,ar]) O O O O AN O ci (.tail (.tail (.tail .head))) O O λk8 G ho=>LF.nil (kp [14,13,10] O) (WF.seq (RL (m:=[(14,au),(13,.pointer (some ⟨ab,0,none⟩)),(10,.pointer (some ⟨bu,0,none⟩))]) 5 [6,7] [4] [2,3] [] (λi v hh=>match i with|0=>v= .pointer (some ⟨ab,11,none⟩)|1=>v= .agg #[.int .i64 (Ar (d.Hour+1)),ac,ad,X]∧AB (Ar (d.Hour+1))|2=>v= .pointer (some ⟨ab,15,none⟩)|3=>v=ar|4=>v=au|_=>False) [[],[(0,62)],[],[(2,64)],[],[],[],[]] [(1,63),(4,66)] mo (by kernel_rfl) [14,13,10] O (by kernel_rfl) (by kernel_rfl) (by kernel_rfl) O O (kp [14,13,10] O) (λi v h1 h2 o1 o2 hr=>?_) (by kernel_rfl) Nz ?_ ?_ ?_))))))))))))
  ·match i,hr with
    |0,hr=>exact hr
    |1,hr=>exact hr
    |2,hr=>exact hr
    |3,hr=>exact hr
    |4,hr=>exact hr
    |_+5,hr=>exact hr.elim
  ·
   refine Jd.cons [] (by kernel_rfl) O O (by kernel_rfl) ?_ ?_
   ·
    intro mq hh o
    intro a hf
    exact⟨au,K8 hf O,O⟩
   exact trivial
  ·
   refine Ae.cons O O O ?_ ?_
   ·
    intro mq hh o
    have hsN:=o.st G
    exact LF.q 1 (QF.fao O Do O (AE (AD (Ap.refl _) O)))
   refine Ae.cons O O O ?_ ?_
   ·
    intro mq hh o
    intro k9 hp
    have hsN:=o.st G
    cases hp
    exact LF.q 1 (QF.ldo (vs:=[.int .i64 (Ar (d.Hour+1)),ac,ad,X]) Aa hsN O (mt (mt (mt mh))) O O Zx O O (AE (AD (Ap.refl _) ⟨O,(Au _)⟩)))
   refine Ae.cons O O O ?_ ?_
   ·
    intro mq hh o
    have hsN:=o.st G
    exact LF.q 1 (QF.fao O Fu O (AE (AD (Ap.refl _) O)))
   refine Ae.cons O O O ?_ ?_
   ·
    intro mq hh o
    intro la hq
    have hsN:=o.st G
    cases hq
    exact LF.q 1 (AI Aa hsN O (mt (mt (mt mh))) O Fq O (AE (AD (Ap.refl _) O)))
   refine Ae.cons O O O ?_ ?_
   ·
    intro mq hh o
    have hsN:=o.st G
    exact LF.q 1 (QF.mv O O (AE (AD (Ap.refl _) O)))
   exact Ae.skip (by kernel_rfl) (Ae.skip (by kernel_rfl) (Ae.skip (by kernel_rfl) (trivial)))
  intro it lb d4 lc ht le hu iu
  have a2:=(MY.nil G d4).st
  obtain⟨rfl,hv⟩:=ht
  cases hu
  refine LF.st (vs:=[.int .i64 (Ar (d.Hour+1)),ac,ad,X]) (cs':=[.int .i64 (Ar (d.Hour+1)),ac,ad,X]) O O O (AC O (AC (a2.osone mh) (AC (a2.osone (mt mh)) (AC (a2.osone (mt (mt (mt (mt mh))))) C6)))) Zx O a2 (.tail (.tail (.tail (.tail (.tail (.tail .head)))))) O O λlf a3 hx=>UF ⟨λi v hh=>match i with|2=>v= .pointer (some ⟨ab,15,none⟩)|3=>v=ar|_=>False,[[],[],[],[(2,64)],[],[],[],[]],[(3,65)],_,[66,63,14,13,10],O,by kernel_rfl,by kernel_rfl,by kernel_rfl,by kernel_rfl,O,λi hi v hr=>?_,λi v h1 h2 o1 o2 hr=>?_,?_,?_⟩
  ·
   rcases List.mem_cons.1 hi with rfl|hi
   ·exact hr
   rcases List.mem_cons.1 hi with rfl|hi
   ·exact hr
   cases hi
  ·match i,hr with
    |0,hr=>exact hr.elim
    |1,hr=>exact hr.elim
    |2,hr=>exact hr
    |3,hr=>exact hr
    |_+4,hr=>exact hr.elim
  ·
   refine Ae.skip (by kernel_rfl) (Ae.skip (by kernel_rfl) (Ae.cons O O O ?_ ?_))
   ·
    intro mq hh o
    have hsN:=o.st a3
    exact LF.q 1 (QF.fao O Fu O (AE (AD (Ap.refl _) O)))
   refine Ae.cons O O O ?_ ?_
   ·
    intro mq hh o
    intro lg hy
    have hsN:=o.st a3
    cases hy
    exact LF.q 1 (AI Aa hsN O (mt (mt (mt mh))) O Fq O (AE (AD (Ap.refl _) O)))
   exact Ae.skip (by kernel_rfl) (Ae.skip (by kernel_rfl) (Ae.skip (by kernel_rfl) (Ae.skip (by kernel_rfl) (trivial))))
  intro lh d5 li hz
  have e3:=d5.st a3
  cases hz
  refine LF.q 1 (QF.as_ O O (AE (LF.q 1 (QF.as_ O O (AE (LF.nil (kp [12,11,10] O) (WF.ret (λaa ww hf hw=>?_))))))))
  obtain⟨lj,e4,h0,h4⟩:=e3.pubs .head
  obtain⟨ll,e6,d6,h5⟩:=e4.pubs .head
  obtain⟨lm,e7,cj,h6⟩:=e6.pubs (.tail (.tail .head))
  have ck:=e7.sel [2,0,1] 1 O
  have h7:=h4.mono' (d6.trans cj)
  have h8:=h5.mono' cj
  have e8:=ck.drop (.tail (.tail .head))
  cases E
  have e9:=e5.trans (bt.trans (b2.trans (bv.trans (bw.trans (bx.trans (bz.trans (b0.trans ((aw.ext g.1).trans (j.trans (t.trans (bk.trans (bl.trans (hn.trans (ho.trans ((d4.ext G.1).trans (hx.trans ((d5.ext a3.1).trans (h0.trans (d6.trans cj)))))))))))))))))))
  exact Hb hf O hw (GF (Md hf hw ck O (mt (mt mh)) Zx O) (GF (IG hf (v:=_) O) (GF (IG hf (v:=_) O) HW))) O e9 ⟨_,_,_,O,(Bj.mk (x:=(⟨(Ar (d.Hour+1)),bm,bn,u.2.1⟩:Aq)) hv h7 h8 h6),e8⟩
theorem JK (hs:St S L h) {a:Value}{c:(List Int)}(b:Sl S h AW.int a c) {r:(List Int)}(E:GB N c=some r):
 BP Tryz.prog 84 #[a] S h (λv S' h'=>St S' (OS AW.int 3 v r::L) h'):=by
 refine Ac (l:=[a]) 8 Tryz.func84 O Tryz.ntmps84 O λB=>?_
 rw[GB] at E
 rcases b.cases with ⟨rfl,rfl⟩|⟨o,m,rfl,b⟩
 ·
  have E1:(some ([]))=some r:=by simpa [chk,room] using E
  refine WF.seq (WF.rp (.inl O) (QF.as_ O O (AA (kp [0] O) (WF.seq (WF.seq (WF.rp (.inl O) (QF.mv O O (PE O O O R9 (AA (kp [4,0] O) (WF.ifT O (WF.seq (WF.rp (.inl O) (QF.as_ O O ?_)))))))))))))
  refine AA (kp [2] O) (WF.ret (λaa ww hf hw=>?_))
  have d:=hs.nil AW.int 3
  cases E
  exact CS hf hw O O (BO.refl S h) d
 refine WF.seq (WF.rp (.inl O) (QF.as_ O O (AA (kp [0] O) (WF.seq (WF.seq (WF.rp (.inl O) (QF.mv O O (QZ O O O R9 (AA (kp [4,0] O) (WF.ifF O (WF.skip (WF.seq (WF.rl ?_)))))))))))))
 refine Qd (r:=AW.int) MM O O hs λs t g n=>LF.q 1 (QF.mv O O (AE ?_))
 have p:=b.mono' n
 obtain⟨i,E⟩:=O4 E
 refine LN (r:=AW.int) (l:=([]:List Int)) (xs:=c) O O MM O (Sl.src p) O i O g (λ_=> .head) λu w j k=>LF.q 1 (QF.as_ O O (AE (LF.nil (kp [2] O) (WF.ret (λaa ww hf hw=>?_)))))
 cases E
 exact CS hf hw O O (n.trans k) j
theorem NR (hs:St S L h) {V:Value}{c:AJ}(az:Rd S h A3 V c) {d:Int}(ab:AB d) {r:AV}(E:Jo N c d=some r):
 BP Tryz.prog 35 #[V,.int .i64 d] S h (λv S' h'=>Rd S' h' CA v r∧St S' (L) h'):=by
 refine Ac (l:=[V,.int .i64 d]) 47 Tryz.func35 O Tryz.ntmps35 O λB=>?_
 rw[Jo] at E
 refine WF.seq (WF.rl (LF.boxp O az (λe=>by cases e) O hs λq1 X h3 e1 e5 k6=>LF.al Rz O e1 λb7 h8 g ac=>LF.nil (kp [4,2,1] O) (WF.seq ?_)))
 obtain⟨co,E⟩:=O4 E
 obtain⟨cp,E⟩:=O4 E
 obtain⟨cq,E⟩:=O4 E
 obtain⟨cr,E⟩:=O4 E
 obtain⟨ct,E⟩:=O4 E
 refine PB (m:=[(4,.pointer (some ⟨b7,0,none⟩)),(2,q1),(1,.int .i64 d)]) [23] [] [4,8,12,16,20,22] ⟨[(21,[8,12,16,20,24,28])],λi l=>match i,l with|21,[some a8,some e2,some e3,some e4,some e6,some e7]=>some (.agg ([a8]++[e2]++[e3]++[(.slice none 0 0:Value)]++[e4]++[e6]++[e7]).toArray)|_,_=>none⟩ (by kernel_rfl) (by kernel_rfl) (λi v hh=>match i with|0=>v= .int .i64 d∧AB d|1=>Pt X hh (AW.sl A7) v c.Places|2=>Sl X hh A7 v c.Places|3=>v= .int .i64 (↑c.Places.length:Int)∧AB (↑c.Places.length:Int)|4=>RS X h8 (AW.sl AW.int) 29 (List.replicate ((↑c.Places.length:Int):Int).toNat ([]:(List Int))) v hh|5=>Pt X hh (AW.sl A7) v c.Places|6=>Sl X hh A7 v c.Places|7=>v= .int .i64 (↑c.Places.length:Int)∧AB (↑c.Places.length:Int)|8=>RS X h8 AW.int 3 (List.replicate ((↑c.Places.length:Int):Int).toNat (0:Int)) v hh|9=>Pt X hh (AW.sl A0) v c.Links|10=>Sl X hh A0 v c.Links|11=>v= .int .i64 (↑c.Links.length:Int)∧AB (↑c.Links.length:Int)|12=>RS X h8 DE 81 (List.replicate ((↑c.Links.length:Int):Int).toNat ((⟨0,0,false,false⟩:BM):BM)) v hh|13=>Pt X hh (AW.sl AW.str) v c.Owners|14=>Sl X hh AW.str v c.Owners|15=>v= .int .i64 (↑c.Owners.length:Int)∧AB (↑c.Owners.length:Int)|16=>RS X h8 AW.int 3 (List.replicate ((↑c.Owners.length:Int):Int).toNat (0:Int)) v hh|17=>Pt X hh (AW.sl AW.str) v c.Owners|18=>Sl X hh AW.str v c.Owners|19=>v= .int .i64 (↑c.Owners.length:Int)∧AB (↑c.Owners.length:Int)|20=>RS X h8 AW.int 3 (List.replicate ((↑c.Owners.length:Int):Int).toNat (0:Int)) v hh|21=>True|22=>PM h8 71 [.int .i64 0,.slice none 0 0,.slice none 0 0,.slice none 0 0,.slice none 0 0,.slice none 0 0,.slice none 0 0] v hh|_=>False) [[],[],[(1,9)],[(2,10)],[(3,11)],[],[(5,13)],[(6,14)],[(7,15)],[],[(9,17)],[(10,18)],[(11,19)],[],[(13,21)],[(14,22)],[(15,23)],[],[(17,25)],[(18,26)],[(19,27)],[(0,8),(4,12),(8,16),(12,20),(16,24),(20,28)],[],[]] [(0,8),(4,12),(8,16),(12,20),(16,24),(20,28),(21,29),(22,5)] mo (by kernel_rfl) [4,2,1] O (by kernel_rfl) (by kernel_rfl) (by kernel_rfl) O (kp [4,2,1] O) (λi v h1 h2 o1 W hr=>?_) (by kernel_rfl) (JY O (JY O (JY O (JY O (JY O (Jv (T:=71) O Nz)))))) ?_ ?_ ?_
 ·match i,hr with
   |0,hr=>exact hr
   |1,hr=>exact KW.mono hr (W.ext λb hb=>Nat.lt_of_lt_of_le (g.1 b hb) o1.siz)
   |2,hr=>exact Sl.mono' hr (W.ext λb hb=>Nat.lt_of_lt_of_le (g.1 b hb) o1.siz)
   |3,hr=>exact hr
   |4,hr=>exact hr.mono g.1 W
   |5,hr=>exact KW.mono hr (W.ext λb hb=>Nat.lt_of_lt_of_le (g.1 b hb) o1.siz)
   |6,hr=>exact Sl.mono' hr (W.ext λb hb=>Nat.lt_of_lt_of_le (g.1 b hb) o1.siz)
   |7,hr=>exact hr
   |8,hr=>exact hr.mono g.1 W
   |9,hr=>exact KW.mono hr (W.ext λb hb=>Nat.lt_of_lt_of_le (g.1 b hb) o1.siz)
   |10,hr=>exact Sl.mono' hr (W.ext λb hb=>Nat.lt_of_lt_of_le (g.1 b hb) o1.siz)
   |11,hr=>exact hr
   |12,hr=>exact hr.mono g.1 W
   |13,hr=>exact KW.mono hr (W.ext λb hb=>Nat.lt_of_lt_of_le (g.1 b hb) o1.siz)
   |14,hr=>exact Sl.mono' hr (W.ext λb hb=>Nat.lt_of_lt_of_le (g.1 b hb) o1.siz)
   |15,hr=>exact hr
   |16,hr=>exact hr.mono g.1 W
   |17,hr=>exact KW.mono hr (W.ext λb hb=>Nat.lt_of_lt_of_le (g.1 b hb) o1.siz)
   |18,hr=>exact Sl.mono' hr (W.ext λb hb=>Nat.lt_of_lt_of_le (g.1 b hb) o1.siz)
   |19,hr=>exact hr
   |20,hr=>exact hr.mono g.1 W
   |21,hr=>exact hr
   |22,hr=>exact hr.mono W
   |_+23,hr=>exact hr.elim
 ·exact trivial
 ·
  refine Ae.cons O O O ?_ ?_
  ·
   intro mq hh o
   have hsN:=o.st g
   exact LF.q 1 (QF.mv O O (AE (AD (Ap.refl _) ⟨O,ab⟩)))
  refine Ae.cons O O O ?_ ?_
  ·
   intro mq hh o
   have hsN:=o.st g
   refine LF.q 1 ?_
   have e8:=k6.mono (ac.trans (o.ext g.1))
   exact QF.fa O e8 Ah Bs O λhz e9=>AE (AD (Ap.refl _) e9)
  refine Ae.cons O O O ?_ ?_
  ·
   intro mq hh o
   intro fb bp
   have hsN:=o.st g
   have bp:Pt _ _ (AW.sl A7) fb c.Places:=bp
   exact LF.q 1 (QF.ldl Aa hsN.1 O bp EY O λh0 fc=>AE (AD (Ap.refl _) fc))
  refine Ae.cons O O O ?_ ?_
  ·
   intro mq hh o
   intro fd bq
   have hsN:=o.st g
   have bq:Sl _ _ A7 fd c.Places:=bq
   exact LF.q 1 (QF.len O bq Dk O λfe=>AE (AD (Ap.refl _) ⟨O,(IJ fe)⟩))
  refine Jb O O O ?_ ?_
  ·
   intro mq hh o
   intro h4 ff
   have hsN:=o.st g
   obtain⟨rfl,h5⟩:=ff
   exact Mr (r:=(AW.sl AW.int)) (zx:=[]) Xp O ⟨_,O,.inl ⟨O,O⟩⟩ O O co O O o g.1 λv' h' o' r' f'=>AD o' ⟨r',f'⟩
  refine Ae.cons O O O ?_ ?_
  ·
   intro mq hh o
   have hsN:=o.st g
   refine LF.q 1 ?_
   have fg:=k6.mono (ac.trans (o.ext g.1))
   exact QF.fa O fg Ah Bs O λh6 fh=>AE (AD (Ap.refl _) fh)
  refine Ae.cons O O O ?_ ?_
  ·
   intro mq hh o
   intro fi br
   have hsN:=o.st g
   have br:Pt _ _ (AW.sl A7) fi c.Places:=br
   exact LF.q 1 (QF.ldl Aa hsN.1 O br EY O λh7 fj=>AE (AD (Ap.refl _) fj))
  refine Ae.cons O O O ?_ ?_
  ·
   intro mq hh o
   intro fk bt
   have hsN:=o.st g
   have bt:Sl _ _ A7 fk c.Places:=bt
   exact LF.q 1 (QF.len O bt Dk O λfl=>AE (AD (Ap.refl _) ⟨O,(IJ fl)⟩))
  refine Jb O O O ?_ ?_
  ·
   intro mq hh o
   intro h9 fm
   have hsN:=o.st g
   obtain⟨rfl,ia⟩:=fm
   exact Mr (r:=AW.int) (zx:=0) MM O ⟨O,by unfold AB;omega⟩ O O cp O O o g.1 λv' h' o' r' f'=>AD o' ⟨r',f'⟩
  refine Ae.cons O O O ?_ ?_
  ·
   intro mq hh o
   have hsN:=o.st g
   refine LF.q 1 ?_
   have fn:=k6.mono (ac.trans (o.ext g.1))
   exact QF.fa O fn AJ.f_Links EE O λib fo=>AE (AD (Ap.refl _) fo)
  refine Ae.cons O O O ?_ ?_
  ·
   intro mq hh o
   intro fp bu
   have hsN:=o.st g
   have bu:Pt _ _ (AW.sl A0) fp c.Links:=bu
   exact LF.q 1 (QF.ldl Aa hsN.1 O bu G7 O λic fq=>AE (AD (Ap.refl _) fq))
  refine Ae.cons O O O ?_ ?_
  ·
   intro mq hh o
   intro fr bv
   have hsN:=o.st g
   have bv:Sl _ _ A0 fr c.Links:=bv
   exact LF.q 1 (QF.len O bv FT O λfs=>AE (AD (Ap.refl _) ⟨O,(IJ fs)⟩))
  refine Jb O O O ?_ ?_
  ·
   intro mq hh o
   intro ie ft
   have hsN:=o.st g
   obtain⟨rfl,ig⟩:=ft
   exact Mr (r:=DE) (zx:=(⟨0,0,false,false⟩:BM)) Xo O ⟨O,by unfold BM.ok AB;simp [IntKind.has,IntKind.min,IntKind.max,IntKind.bits,IntKind.signed]⟩ O O cq O O o g.1 λv' h' o' r' f'=>AD o' ⟨r',f'⟩
  refine Ae.cons O O O ?_ ?_
  ·
   intro mq hh o
   have hsN:=o.st g
   refine LF.q 1 ?_
   have fu:=k6.mono (ac.trans (o.ext g.1))
   exact QF.fa O fu Ct Hf O λih fv=>AE (AD (Ap.refl _) fv)
  refine Ae.cons O O O ?_ ?_
  ·
   intro mq hh o
   intro fw bw
   have hsN:=o.st g
   have bw:Pt _ _ (AW.sl AW.str) fw c.Owners:=bw
   exact LF.q 1 (QF.ldl Aa hsN.1 O bw Ke O λii fx=>AE (AD (Ap.refl _) fx))
  refine Ae.cons O O O ?_ ?_
  ·
   intro mq hh o
   intro fy ag
   have hsN:=o.st g
   have ag:Sl _ _ AW.str fy c.Owners:=ag
   exact LF.q 1 (QF.len O ag J5 O λcu=>AE (AD (Ap.refl _) ⟨O,(IJ cu)⟩))
  refine Jb O O O ?_ ?_
  ·
   intro mq hh o
   intro f1 cv
   have hsN:=o.st g
   obtain⟨rfl,f2⟩:=cv
   exact Mr (r:=AW.int) (zx:=0) MM O ⟨O,by unfold AB;omega⟩ O O cr O O o g.1 λv' h' o' r' f'=>AD o' ⟨r',f'⟩
  refine Ae.cons O O O ?_ ?_
  ·
   intro mq hh o
   have hsN:=o.st g
   refine LF.q 1 ?_
   have cw:=k6.mono (ac.trans (o.ext g.1))
   exact QF.fa O cw Ct Hf O λf3 cx=>AE (AD (Ap.refl _) cx)
  refine Ae.cons O O O ?_ ?_
  ·
   intro mq hh o
   intro cy ah
   have hsN:=o.st g
   have ah:Pt _ _ (AW.sl AW.str) cy c.Owners:=ah
   exact LF.q 1 (QF.ldl Aa hsN.1 O ah Ke O λf4 cz=>AE (AD (Ap.refl _) cz))
  refine Ae.cons O O O ?_ ?_
  ·
   intro mq hh o
   intro c0 ai
   have hsN:=o.st g
   have ai:Sl _ _ AW.str c0 c.Owners:=ai
   exact LF.q 1 (QF.len O ai J5 O λc1=>AE (AD (Ap.refl _) ⟨O,(IJ c1)⟩))
  refine Jb O O O ?_ ?_
  ·
   intro mq hh o
   intro f5 c2
   have hsN:=o.st g
   obtain⟨rfl,f6⟩:=c2
   exact Mr (r:=AW.int) (zx:=0) MM O ⟨O,by unfold AB;omega⟩ O O ct O O o g.1 λv' h' o' r' f'=>AD o' ⟨r',f'⟩
  refine Ae.z [8,12,16,20,24,28] O O O (by kernel_rfl) ?_ ?_
  ·
   intro mq hh o
   intro f7 c3 f8 a5 f9 a6 ga a7 gb a9 gc ba
   have hsN:=o.st g
   obtain⟨rfl,ge⟩:=c3
   obtain⟨c4,a0,rfl,a5⟩:=a5
   obtain⟨c5,a1,rfl,a6⟩:=a6
   obtain⟨c6,a2,rfl,a7⟩:=a7
   obtain⟨c7,a3,rfl,a9⟩:=a9
   obtain⟨c8,a4,rfl,ba⟩:=ba
   exact LF.q 1 (QF.bld (cs:=[.int .i64 d,(.slice (some ⟨c4,0,none⟩) (List.replicate ((↑c.Places.length:Int):Int).toNat ([]:(List Int))).length a0),(.slice (some ⟨c5,0,none⟩) (List.replicate ((↑c.Places.length:Int):Int).toNat (0:Int)).length a1),.slice none 0 0,(.slice (some ⟨c6,0,none⟩) (List.replicate ((↑c.Links.length:Int):Int).toNat ((⟨0,0,false,false⟩:BM):BM)).length a2),(.slice (some ⟨c7,0,none⟩) (List.replicate ((↑c.Owners.length:Int):Int).toNat (0:Int)).length a3),(.slice (some ⟨c8,0,none⟩) (List.replicate ((↑c.Owners.length:Int):Int).toNat (0:Int)).length a4)]) XB O O O (AE (AD (Ap.refl _) ⟨trivial,O,O⟩)))
  exact Ae.al O Rz O O (Ae.skip (by kernel_rfl) (trivial))
 intro gf aj gg c9 gh da gi db gj dc gk dd gl de df gm gp dg j bx
 obtain⟨H,u,rfl,dh,di,dj⟩:=da
 obtain⟨I,A,rfl,dk,dl,dm⟩:=db
 obtain⟨J,C,rfl,dn,dp,dq⟩:=dc
 obtain⟨K,D,rfl,dr,ds,dt⟩:=dd
 obtain⟨M,F,rfl,du,dv,dw⟩:=de
 obtain⟨Q,rfl,dx,dy,dz⟩:=dg
 have bz:=(MY.cons (Ii (Ii (Ii (Ii (Ii (MY.nil g aj) dh di dj List.not_mem_nil) dk dl dm (OL (j.of_ (s:=16) (s':=12) (by kernel_rfl) O O O O) List.not_mem_nil)) dn dp dq (OL (j.of_ (s:=20) (s':=16) (by kernel_rfl) O O O O) (OL (j.of_ (s:=20) (s':=12) (by kernel_rfl) O O O O) List.not_mem_nil))) dr ds dt (OL (j.of_ (s:=24) (s':=20) (by kernel_rfl) O O O O) (OL (j.of_ (s:=24) (s':=16) (by kernel_rfl) O O O O) (OL (j.of_ (s:=24) (s':=12) (by kernel_rfl) O O O O) List.not_mem_nil)))) du dv dw (OL (j.of_ (s:=28) (s':=24) (by kernel_rfl) O O O O) (OL (j.of_ (s:=28) (s':=20) (by kernel_rfl) O O O O) (OL (j.of_ (s:=28) (s':=16) (by kernel_rfl) O O O O) (OL (j.of_ (s:=28) (s':=12) (by kernel_rfl) O O O O) List.not_mem_nil))))) dx dy dz (OL (j.of_ (s:=5) (s':=28) (by kernel_rfl) O O O O) (OL (j.of_ (s:=5) (s':=24) (by kernel_rfl) O O O O) (OL (j.of_ (s:=5) (s':=20) (by kernel_rfl) O O O O) (OL (j.of_ (s:=5) (s':=16) (by kernel_rfl) O O O O) (OL (j.of_ (s:=5) (s':=12) (by kernel_rfl) O O O O) List.not_mem_nil)))))).st
 obtain⟨rfl,d0⟩:=c9
 obtain rfl:df=Value.agg #[.int .i64 d,(.slice (some ⟨H,0,none⟩) (List.replicate ((↑c.Places.length:Int):Int).toNat ([]:(List Int))).length u),(.slice (some ⟨I,0,none⟩) (List.replicate ((↑c.Places.length:Int):Int).toNat (0:Int)).length A),.slice none 0 0,(.slice (some ⟨J,0,none⟩) (List.replicate ((↑c.Links.length:Int):Int).toNat ((⟨0,0,false,false⟩:BM):BM)).length C),(.slice (some ⟨K,0,none⟩) (List.replicate ((↑c.Owners.length:Int):Int).toNat (0:Int)).length D),(.slice (some ⟨M,0,none⟩) (List.replicate ((↑c.Owners.length:Int):Int).toNat (0:Int)).length F)]:=(Option.some.inj (bx _ List.mem_cons_self 29 _ (by kernel_rfl) O O)).symm
 refine Aj (vs:=[.int .i64 d,(.slice (some ⟨H,0,none⟩) (List.replicate ((↑c.Places.length:Int):Int).toNat ([]:(List Int))).length u),(.slice (some ⟨I,0,none⟩) (List.replicate ((↑c.Places.length:Int):Int).toNat (0:Int)).length A),.slice none 0 0,(.slice (some ⟨J,0,none⟩) (List.replicate ((↑c.Links.length:Int):Int).toNat ((⟨0,0,false,false⟩:BM):BM)).length C),(.slice (some ⟨K,0,none⟩) (List.replicate ((↑c.Owners.length:Int):Int).toNat (0:Int)).length D),(.slice (some ⟨M,0,none⟩) (List.replicate ((↑c.Owners.length:Int):Int).toNat (0:Int)).length F)]) O O O O G6 O bz .head O λak am bb=>LF.nil (kp [5,4,2] O) (WF.seq (WF.seq (WF.rp (.inl O) ?_)))
 have b0:=ac.trans ((aj.ext g.1).trans bb)
 have d1:=k6.mono b0
 refine QF.fa O d1 Ah Bs O λgq d2=>QF.ldl Aa am.1 O d2 EY O λbc be=>QF.len O be Dk O λgr=>QF.mv O O (AA (kp [33,32,31,5,4] O) (WF.blockJ (λa w=>∃(ae:List (List Int)),IV B X ak (47,[]) a w [(5,.pointer (some ⟨Q,0,none⟩)),(4,.pointer (some ⟨b7,0,none⟩))] (Bx Q 71 [.int .i64 d,(.slice (some ⟨H,0,none⟩) (List.replicate ((↑c.Places.length:Int):Int).toNat ([]:(List Int))).length u),(.slice (some ⟨I,0,none⟩) (List.replicate ((↑c.Places.length:Int):Int).toNat (0:Int)).length A),.slice none 0 0,(.slice (some ⟨J,0,none⟩) (List.replicate ((↑c.Links.length:Int):Int).toNat ((⟨0,0,false,false⟩:BM):BM)).length C),(.slice (some ⟨K,0,none⟩) (List.replicate ((↑c.Owners.length:Int):Int).toNat (0:Int)).length D),(.slice (some ⟨M,0,none⟩) (List.replicate ((↑c.Owners.length:Int):Int).toNat (0:Int)).length F)]::OS AW.int 3 (.slice (some ⟨M,0,none⟩) (List.replicate ((↑c.Owners.length:Int):Int).toNat (0:Int)).length F) (List.replicate ((↑c.Owners.length:Int):Int).toNat (0:Int))::OS AW.int 3 (.slice (some ⟨K,0,none⟩) (List.replicate ((↑c.Owners.length:Int):Int).toNat (0:Int)).length D) (List.replicate ((↑c.Owners.length:Int):Int).toNat (0:Int))::OS DE 81 (.slice (some ⟨J,0,none⟩) (List.replicate ((↑c.Links.length:Int):Int).toNat ((⟨0,0,false,false⟩:BM):BM)).length C) (List.replicate ((↑c.Links.length:Int):Int).toNat ((⟨0,0,false,false⟩:BM):BM))::OS AW.int 3 (.slice (some ⟨I,0,none⟩) (List.replicate ((↑c.Places.length:Int):Int).toNat (0:Int)).length A) (List.replicate ((↑c.Places.length:Int):Int).toNat (0:Int))::OS (AW.sl AW.int) 29 (.slice (some ⟨H,0,none⟩) (List.replicate ((↑c.Places.length:Int):Int).toNat ([]:(List Int))).length u) ae::Bx b7 71 [.int .i64 0,.slice none 0 0,.slice none 0 0,.slice none 0 0,.slice none 0 0,.slice none 0 0,.slice none 0 0]::L) λ_ _=>HH N c d ae=some r) ?_ ?_))
 ·
  refine WF.loopF (λn1=>λa w=>∃(G:Int) (U:List (List Int)),IV B X ak (47,[]) a w [(32,.int .i64 (↑c.Places.length:Int)),(31,bc),(5,.pointer (some ⟨Q,0,none⟩)),(4,.pointer (some ⟨b7,0,none⟩)),(33,.int .i64 G)] (Bx Q 71 [.int .i64 d,(.slice (some ⟨H,0,none⟩) (List.replicate ((↑c.Places.length:Int):Int).toNat ([]:(List Int))).length u),(.slice (some ⟨I,0,none⟩) (List.replicate ((↑c.Places.length:Int):Int).toNat (0:Int)).length A),.slice none 0 0,(.slice (some ⟨J,0,none⟩) (List.replicate ((↑c.Links.length:Int):Int).toNat ((⟨0,0,false,false⟩:BM):BM)).length C),(.slice (some ⟨K,0,none⟩) (List.replicate ((↑c.Owners.length:Int):Int).toNat (0:Int)).length D),(.slice (some ⟨M,0,none⟩) (List.replicate ((↑c.Owners.length:Int):Int).toNat (0:Int)).length F)]::OS AW.int 3 (.slice (some ⟨M,0,none⟩) (List.replicate ((↑c.Owners.length:Int):Int).toNat (0:Int)).length F) (List.replicate ((↑c.Owners.length:Int):Int).toNat (0:Int))::OS AW.int 3 (.slice (some ⟨K,0,none⟩) (List.replicate ((↑c.Owners.length:Int):Int).toNat (0:Int)).length D) (List.replicate ((↑c.Owners.length:Int):Int).toNat (0:Int))::OS DE 81 (.slice (some ⟨J,0,none⟩) (List.replicate ((↑c.Links.length:Int):Int).toNat ((⟨0,0,false,false⟩:BM):BM)).length C) (List.replicate ((↑c.Links.length:Int):Int).toNat ((⟨0,0,false,false⟩:BM):BM))::OS AW.int 3 (.slice (some ⟨I,0,none⟩) (List.replicate ((↑c.Places.length:Int):Int).toNat (0:Int)).length A) (List.replicate ((↑c.Places.length:Int):Int).toNat (0:Int))::OS (AW.sl AW.int) 29 (.slice (some ⟨H,0,none⟩) (List.replicate ((↑c.Places.length:Int):Int).toNat ([]:(List Int))).length u) U::Bx b7 71 [.int .i64 0,.slice none 0 0,.slice none 0 0,.slice none 0 0,.slice none 0 0,.slice none 0 0,.slice none 0 0]::L) λ_ _=>AB G∧GH N c (HH N c d) n1 G U=some r) N ?_ ?_ ?_
  ·
   intro aa ww hf hw
   exact⟨0,(List.replicate ((↑c.Places.length:Int):Int).toNat ([]:(List Int))),_,_,hf.sub (kp [32,31,5,4,33] O),hw,am,(BO.refl X ak),(iq (n:=0) O),E⟩
  ·
   rintro aa ww ⟨_,_,_,_,_,_,_,_,_,E⟩
   rw[GH] at E;cases E
  ·
   rintro n1 aa ww ⟨G,U,an,gs,hf,hw,ad,ao,d3,E⟩
   refine WF.run ?_ hf hw
   clear hf hw ww aa
   rw[GH] at E
   refine WF.seq (WF.rp (.inl O) (QF.lss O O O (AA (kp [34,32,31,5,4,33] O) (WF.seq (WF.if_ O (λap=>?_) (λap=>?_))))))
   ·
    have E:=Av ap E
    refine WF.skip (WF.seq (WF.block (WF.seq (WF.rl (LF.q 3 (QF.mv O O ?_))))))
    have d4:=be.mono' ao
    obtain⟨t,b1,E⟩:=bd E
    refine QF.ixe O O d4 Dk b1 O λgu d5=>QF.ld Aa ad.1 O d5 HV (λe=>by cases e) O λgv d6=>AE (LF.al Lw O ad λbf gw b2 bg=>LF.q 1 (QF.as_ O O (AE ?_)))
    have d7:=d6.mono bg
    obtain⟨bh,bi,bj,rfl,gx,gz,g0,g1,d8,bk,g2,g3,g4,g5,g6,d9⟩:=A7.ex d7
    refine LF.st (vs:=[.string t.Name,.int .i64 t.Kind,.int .i64 t.Office,.int .i64 t.Cap,bh,bi,.int .i64 t.Num,.int .i64 t.Den,.int .i64 t.Down,.int .i64 t.Delay,.int .i64 t.Floor,bj]) (cs':=[.string t.Name,.int .i64 t.Kind,.int .i64 t.Office,.int .i64 t.Cap,bh,bi,.int .i64 t.Num,.int .i64 t.Den,.int .i64 t.Down,.int .i64 t.Delay,.int .i64 t.Floor,bj]) O O O (AC O (AC O (AC O (AC O (AC d8.one (AC bk.one (AC O (AC O (AC O (AC O (AC O (AC d9.one C6)))))))))))) HV O b2 .head O O λbl y bm=>LF.nil (kp [6,7,32,31,5,4,33] O) ?_
    obtain⟨aq,b3,E⟩:=bd E
    obtain⟨g7,b4,E⟩:=bd E
    refine Iy (m:=[(6,.int .i64 G),(7,.pointer (some ⟨bf,0,none⟩)),(32,.int .i64 (↑c.Places.length:Int)),(31,bc),(5,.pointer (some ⟨Q,0,none⟩)),(4,.pointer (some ⟨b7,0,none⟩)),(33,.int .i64 G)]) 7 (λi v hh=>match i with|0=>v= .pointer (some ⟨Q,1,none⟩)|1=>v=(.slice (some ⟨H,0,none⟩) (List.replicate ((↑c.Places.length:Int):Int).toNat ([]:(List Int))).length u)|2=>v= .int .i64 G∧AB G|3=>v= .pointer (some ⟨bf,5,none⟩)|4=>Sl an hh AW.int v t.Start|5=>Sl (SN an bl hh) hh AW.int v aq|6=>EP (.slice (some ⟨H,0,none⟩) (List.replicate ((↑c.Places.length:Int):Int).toNat ([]:(List Int))).length u) (G.toNat*((AW.sl AW.int)).sz+0) v|_=>False) [[],[(0,38)],[],[],[(3,41)],[(4,42)],[(1,39),(2,40)]] [(5,43),(6,44)] mo (by kernel_rfl) [6,7,32,31,5,4,33] O (by kernel_rfl) (by kernel_rfl) (by kernel_rfl) (kp [6,7,32,31,5,4,33] O) (λi v h1 h2 o1 W hr=>?_) ?_ ?_
    ·match i,hr with
      |0,hr=>exact hr
      |1,hr=>exact hr
      |2,hr=>exact hr
      |3,hr=>exact hr
      |4,hr=>exact Sl.mono' hr (W.ext λb hb=>Nat.lt_of_lt_of_le (y.1 b hb) o1.siz)
      |5,hr=>exact Sl.mono' hr (SN.mono y.1 o1 W)
      |6,hr=>exact hr
      |_+7,hr=>exact hr.elim
    ·
     refine AQ.cons O ?_ ?_
     ·
      intro mq hh o
      have hsN:=o.st y
      exact LF.q 1 (QF.fao O JB O (AE (AD (Ap.refl _) O)))
     refine AQ.cons O ?_ ?_
     ·
      intro mq hh o
      intro g8 ea
      have hsN:=o.st y
      cases ea
      exact LF.q 1 (AI Aa hsN O (mt mh) O Mt O (AE (AD (Ap.refl _) O)))
     refine AQ.cons O ?_ ?_
     ·
      intro mq hh o
      have hsN:=o.st y
      exact LF.q 1 (QF.mv O O (AE (AD (Ap.refl _) ⟨O,d3⟩)))
     refine AQ.cons O ?_ ?_
     ·
      intro mq hh o
      have hsN:=o.st y
      exact LF.q 1 (QF.fao O Ox O (AE (AD (Ap.refl _) O)))
     refine AQ.cons O ?_ ?_
     ·
      intro mq hh o
      intro g9 eb
      have hsN:=o.st y
      cases eb
      refine LF.q 1 (AI Aa hsN O mh O GV O (AE ?_))
      have ec:=bk.mono' (bm.trans (o.ext y.1))
      exact AD (Ap.refl _) ec
     refine AQ.cons O ?_ ?_
     ·
      intro mq hh o
      intro ed Y
      have hsN:=SN.st y o
      have Y:=Sl.mono' (S':=(SN an bl hh)) Y ⟨λb hb=> .inl hb,λ_ _=>rfl,Nat.le_refl _⟩
      have Y:Sl _ _ AW.int ed t.Start:=Y
      have hsF:=hsN.fz
      refine LF.callb O O O X0 O hsF (JK (St.all _) (Y.mono (λb hb=>hsF.1 b hb) (λ_ _=>rfl)) b3) λha hc hd f0 ee ef p=>?_
      have b5:=p
      have ar:=hsF.join ef b5 ⟨OS.flat (λ{_ _ _ _ _ _} k=>k),trivial⟩
      simp only[List.cons_append,List.nil_append] at ar
      obtain⟨he,b6,eg,eh⟩:=ar.pubs .head
      have au:=Fz.done o (ee.trans eg) b6
      exact AD au.1 (Sl.mono' eh au.2)
     refine AQ.cons O ?_ ?_
     ·
      intro mq hh o
      intro hg ei hi ej
      have hsN:=o.st y
      cases ei
      obtain⟨rfl,hj⟩:=ej
      exact LF.q 1 (QF.ixoe hsN (mt (mt (mt (mt (mt (mt mh)))))) O O LY b4 O λhk b8=>AE (AD (Ap.refl _) b8))
     exact trivial
    intro hl bn ek av hm el
    have b9:=SN.st y bn
    have av:Sl _ _ AW.int ek aq:=av
    obtain⟨em,ca,E⟩:=bd E
    refine LF.ste (r:=(AW.sl AW.int)) (l:=U) (i:=G) (x:=em) O O (RP av) el ca MS.id GV (λ_=>rfl) b9 (.tail (.tail (.tail (.tail (.tail (.tail .head)))))) λhn cb en=>LF.nil (kp [32,31,5,4,33] O) (Al (WF.rp (.inl O) (QF.addw O O O (QF.mv O O (AA (kp [33,32,31,5,4] O) (WF.nil (λaa ww hf hw=>?_)))))))
    have cc:=cb.sel [1,1,1,1,1,1,1] 1 O
    have cd:=ao.trans (bg.trans (bm.trans ((SN.ext y.1 bn).trans en)))
    exact⟨(Ar (G+1)),(upd U G aq),_,_,hf.sub (kp [32,31,5,4,33] O),hw,cc,cd,(Au _),E⟩
   ·
    have E:=Aw ap E
    refine WF.exit O (λaa ww hf hw=>?_)
    exact⟨U,_,_,hf.sub (kp [5,4] O),hw,ad,ao,E⟩
 ·
  rintro aa ww ⟨ae,ho,hp,hf,hw,aw,eo,E⟩
  refine WF.run ?_ hf hw
  clear hf hw ww aa
  rw[HH] at E
  refine WF.seq (WF.rl (LF.q 1 (QF.ldo (vs:=[.int .i64 d,(.slice (some ⟨H,0,none⟩) (List.replicate ((↑c.Places.length:Int):Int).toNat ([]:(List Int))).length u),(.slice (some ⟨I,0,none⟩) (List.replicate ((↑c.Places.length:Int):Int).toNat (0:Int)).length A),.slice none 0 0,(.slice (some ⟨J,0,none⟩) (List.replicate ((↑c.Links.length:Int):Int).toNat ((⟨0,0,false,false⟩:BM):BM)).length C),(.slice (some ⟨K,0,none⟩) (List.replicate ((↑c.Owners.length:Int):Int).toNat (0:Int)).length D),(.slice (some ⟨M,0,none⟩) (List.replicate ((↑c.Owners.length:Int):Int).toNat (0:Int)).length F)]) Aa aw O mh O O G6 O O (AE (Aj (vs:=[.int .i64 d,(.slice (some ⟨H,0,none⟩) (List.replicate ((↑c.Places.length:Int):Int).toNat ([]:(List Int))).length u),(.slice (some ⟨I,0,none⟩) (List.replicate ((↑c.Places.length:Int):Int).toNat (0:Int)).length A),.slice none 0 0,(.slice (some ⟨J,0,none⟩) (List.replicate ((↑c.Links.length:Int):Int).toNat ((⟨0,0,false,false⟩:BM):BM)).length C),(.slice (some ⟨K,0,none⟩) (List.replicate ((↑c.Owners.length:Int):Int).toNat (0:Int)).length D),(.slice (some ⟨M,0,none⟩) (List.replicate ((↑c.Owners.length:Int):Int).toNat (0:Int)).length F)]) O O O O G6 O aw (.tail (.tail (.tail (.tail (.tail (.tail .head)))))) O λhq ce ep=>?_)))))
  refine LF.nil (kp [4] O) (WF.ret (λaa ww hf hw=>?_))
  obtain⟨ht,cf,eq,er⟩:=ce.pubs (.tail (.tail (.tail (.tail (.tail .head)))))
  obtain⟨hu,cg,bo,es⟩:=cf.pubs (.tail (.tail (.tail (.tail .head))))
  obtain⟨hv,ch,ax,et⟩:=cg.pubs (.tail (.tail (.tail .head)))
  obtain⟨hx,ci,af,eu⟩:=ch.pubs (.tail (.tail .head))
  obtain⟨hy,cj,Z,ev⟩:=ci.pubs (.tail .head)
  have ay:=cj.sel [1] 1 O
  have ck:=bo.trans (ax.trans (af.trans Z))
  have ew:=er.mono' ck
  have cl:=ax.trans (af.trans Z)
  have ey:=es.mono' cl
  have ez:=et.mono' (af.trans Z)
  have e0:=eu.mono' Z
  have cm:=ay.drop .head
  cases E
  have cn:=e5.trans (ac.trans ((aj.ext g.1).trans (bb.trans (eo.trans (ep.trans (eq.trans (bo.trans (ax.trans (af.trans Z)))))))))
  exact Hb hf O hw (GF (Md hf hw ay O mh G6 O) HW) O cn ⟨(CA.mk (x:=(⟨d,ae,(List.replicate ((↑c.Places.length:Int):Int).toNat (0:Int)),[],(List.replicate ((↑c.Links.length:Int):Int).toNat ((⟨0,0,false,false⟩:BM):BM)),(List.replicate ((↑c.Owners.length:Int):Int).toNat (0:Int)),(List.replicate ((↑c.Owners.length:Int):Int).toNat (0:Int))⟩:AV)) d0 ew ey (.inl ⟨O,O⟩) ez e0 ev),cm⟩
end Go.Proofs.YtibidnaedddfdaaGreat
