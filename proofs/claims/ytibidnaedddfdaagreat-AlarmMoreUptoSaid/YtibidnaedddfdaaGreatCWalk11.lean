import Derived.Test.YtibidnaedddfdaaGreatCWalk10
namespace Go.Proofs.YtibidnaedddfdaaGreat
open Go.RowKit
set_option linter.unusedVariables false
set_option linter.unusedSimpArgs false
set_option maxRecDepth 10000
set_option maxHeartbeats 2000000
variable {N:Nat}{S:Nat→Prop}{L:List HP}{h:AX}
theorem N4 (hs:St S L h) {a0:Value}{c:AJ}(cl:Rd S h BV a0 c) {a1:Value}{d:BT}(cm:Rd S h DI a1 d) {af:Value}{a8:BJ}(b1:Rd S h Dt af a8) {y:Value}{a4:(List Bool)}(a9:Sl S h AV.bool y a4) {A:Value}{a5:(List AD)}(ba:Sl S h AF A a5) {r:BT×(List AD)×(List AD)}(E:GY N c d a8 a4 a5=some r):
 Bf Tryz.prog 12 #[a0,a1,af,y,A] S h (λv S' h'=>∃fb fc fd:Value,v= .tuple #[fb,fc,fd]∧Rd S' h' DI fb r.1∧St S' (OS AF 51 fc r.2.1::OS AF 51 fd r.2.2::L) h'):=by
 refine Ab (l:=[a0,a1,af,y,A]) 67 Tryz.func12 O Tryz.ntmps12 O λB=>?_
 rw[GY] at E
 refine WF.seq (WF.rl (LF.boxp O cl (λe=>by cases e) O hs λq1 S2 h3 h9 e5 k6=>?_))
 have k7:=cm.mono e5
 obtain⟨lo,fe,ia,rfl,r9,ib,ic,ie⟩:=DI.ex k7
 refine LF.box O O O h9 λig lp ff bt=>?_
 have ih:=b1.mono (e5.trans bt)
 refine LF.boxp O ih (λe=>by cases e) O ff λfg cn lq fh b2 ii=>LF.al Ss O fh λbu lr bc bv=>LF.q 2 (QF.as_ O O (QF.as_ O O (AG (LF.nil (kp [10,7,6,5,3,4] O) (WF.seq (WF.rl (LF.q 2 (QF.fao O Kf O (AI Af bc O (mt mh) O Gn O (AG ?_))))))))))
 have cy:=bt.trans (b2.trans bv)
 have ij:=ib.mono' cy
 obtain⟨ae,fi,E⟩:=bd E
 refine LF.callb O O O ZV O bc (FE (St.all _) (ij.mono (λb hb=>bc.1 b hb) (λ_ _=>rfl)) fi) λls lt lu iv bw ik p=>?_
 have fj:=p
 have b3:=bc.join ik fj ⟨OS.flat (λ{_ _ _ _ _ _} k=>k),trivial⟩
 simp only[List.cons_append,List.nil_append] at b3
 refine LF.q 1 (QF.fao O Kf O (AG ?_))
 obtain⟨H,C,rfl,lv⟩:=b3.oslen mh
 refine H3 (vs:=[(.slice H ae.length C)]) (cs':=[.int .i64 d.Hour,(.slice H ae.length C),fe,ia]) O O O O Gn O b3 (.tail (.tail .head)) O O λlw be bx=>LF.nil (kp [10,7,6,5,3,4] O) (WF.seq (WF.rl (LF.q 2 (QF.fao O Gv O (AI Af be O (mt (mt mh)) O JZ O (AG ?_))))))
 have cz:=cy.trans (bw.trans bx)
 have il:=ie.mono' cz
 obtain⟨a6,fk,E⟩:=bd E
 refine LF.callb O O O ZU O be (E4 (St.all _) (il.mono (λb hb=>be.1 b hb) (λ_ _=>rfl)) fk) λlx ly lz iw bz im p=>?_
 have fl:=p
 have b4:=be.join im fl ⟨OS.flat (λ{_ _ _ _ _ _} k=>k),trivial⟩
 simp only[List.cons_append,List.nil_append] at b4
 refine LF.q 1 (QF.fao O Gv O (AG ?_))
 obtain⟨ag,F,rfl,l0⟩:=b4.oslen mh
 refine H3 (vs:=[(.slice ag a6.length F)]) (cs':=[.int .i64 d.Hour,(.slice H ae.length C),fe,(.slice ag a6.length F)]) O O O O JZ O b4 (.tail (.tail (.tail .head))) O O λfm g b0=>LF.nil (kp [10,7,6,5,3,4] O) (WF.seq ?_)
 have c0:=cz.trans (bz.trans b0)
 have fn:=ic.mono' c0
 obtain⟨a7,ah,rfl,l1⟩:=(fn).len
 obtain⟨fo,E⟩:=Q0 E
 refine SB (m:=[(10,.pointer (some ⟨bu,0,none⟩)),(7,fg),(6,.pointer (some ⟨ig,0,none⟩)),(5,q1),(3,y),(4,A)]) [8] [] [5,7] ⟨[(6,[24,25,29])],λi l=>match i,l with|6,[some io,some ip,some ir]=>some (.agg (io.cells.toList++ip.cells.toList++[ir]).toArray)|_,_=>none⟩ (by kernel_rfl) (by kernel_rfl) (λi v hh=>match i with|0=>Rd cn hh BV v c|1=>v= .agg #[.int .i64 d.Hour,(.slice H ae.length C),(.slice a7 d.Queue.length ah),(.slice ag a6.length F)]∧AB d.Hour|2=>Pt cn hh (AV.sl BO) v c.Places|3=>Sl cn hh BO v c.Places|4=>v= .int .i64 (↑c.Places.length:Int)∧AB (↑c.Places.length:Int)|5=>WG cn fm AF 51 (List.replicate ((↑c.Places.length:Int):Int).toNat ((⟨0,0⟩:AD):AD)) v hh|6=>True|7=>Od fm 106 [.string ByteArray.empty,.slice none 0 0,.int .i64 0,.slice none 0 0,.slice none 0 0,.slice none 0 0,.slice none 0 0,.slice none 0 0,.slice none 0 0,.slice none 0 0,.int .i64 0,.int .i64 0,.slice none 0 0,.slice none 0 0,.slice none 0 0,.slice none 0 0] v hh|_=>False) [[],[],[],[(2,26)],[(3,27)],[(4,28)],[(0,24),(1,25),(5,29)],[],[]] [(0,24),(1,25),(5,29),(6,30),(7,13)] mo (by kernel_rfl) [10,7,6,5,3,4] O (by kernel_rfl) (by kernel_rfl) (by kernel_rfl) O (kp [10,7,6,5,3,4] O) (λi v h1 h2 o1 o2 hr=>?_) (by kernel_rfl) (U0 O (Kk (T:=106) O PH)) ?_ ?_ ?_
 ·match i,hr with
   |0,hr=>exact Rd.mono hr (o2.ext λb hb=>Nat.lt_of_lt_of_le (g.1 b hb) o1.siz)
   |1,hr=>exact hr
   |2,hr=>exact K1.mono hr (o2.ext λb hb=>Nat.lt_of_lt_of_le (g.1 b hb) o1.siz)
   |3,hr=>exact Sl.mono' hr (o2.ext λb hb=>Nat.lt_of_lt_of_le (g.1 b hb) o1.siz)
   |4,hr=>exact hr
   |5,hr=>exact hr.mono g.1 o2
   |6,hr=>exact hr
   |7,hr=>exact hr.mono o2
   |_+8,hr=>exact hr.elim
 ·exact trivial
 ·
  refine An.cons O O O ?_ ?_
  ·
   intro mq hh o
   have hsN:=o.st g
   refine LF.q 1 ?_
   have fp:=k6.mono (bt.trans (b2.trans (bv.trans (bw.trans (bx.trans (bz.trans (b0.trans (o.ext g.1))))))))
   exact QF.ld Af hsN.1 O fp F7 (λe=>by cases e) O λiy fq=>AG (AM (BX.refl _) fq)
  refine An.cons O O O ?_ ?_
  ·
   intro mq hh o
   have hsN:=o.st g
   exact LF.q 1 (QF.ldo (vs:=[.int .i64 d.Hour,(.slice H ae.length C),(.slice a7 d.Queue.length ah),(.slice ag a6.length F)]) Af hsN O (mt (mt (mt mh))) O O H6 O O (AG (AM (BX.refl _) ⟨O,r9⟩)))
  refine An.cons O O O ?_ ?_
  ·
   intro mq hh o
   have hsN:=o.st g
   refine LF.q 1 ?_
   have fr:=k6.mono (bt.trans (b2.trans (bv.trans (bw.trans (bx.trans (bz.trans (b0.trans (o.ext g.1))))))))
   exact QF.fa O fr A4 DW O λiz fs=>AG (AM (BX.refl _) fs)
  refine An.cons O O O ?_ ?_
  ·
   intro mq hh o
   intro ft b5
   have hsN:=o.st g
   have b5:Pt _ _ (AV.sl BO) ft c.Places:=b5
   exact LF.q 1 (QF.ldl Af hsN.1 O b5 Ff O λi0 fu=>AG (AM (BX.refl _) fu))
  refine An.cons O O O ?_ ?_
  ·
   intro mq hh o
   intro fv b6
   have hsN:=o.st g
   have b6:Sl _ _ BO fv c.Places:=b6
   exact LF.q 1 (QF.len O b6 E5 O λfw=>AG (AM (BX.refl _) ⟨O,(Jk fw)⟩))
  refine U7 O O O ?_ ?_
  ·
   intro mq hh o
   intro i1 fx
   have hsN:=o.st g
   obtain⟨rfl,i2⟩:=fx
   exact YG (r:=AF) (zx:=(⟨0,0⟩:AD)) QC O ⟨O,by unfold AD.ok AB;simp [IntKind.has,IntKind.min,IntKind.max,IntKind.bits,IntKind.signed]⟩ O O fo O O o g.1 λv' h' o' r' f'=>AM o' ⟨r',f'⟩
  refine An.z [24,25,29] O O O (by kernel_rfl) ?_ ?_
  ·
   intro mq hh o
   intro fy b7 i3 fz i4 c1
   have hsN:=o.st g
   have b7:Rd _ _ BV fy c:=b7
   obtain⟨rfl,i5⟩:=fz
   obtain⟨f0,co,rfl,c1⟩:=c1
   refine LF.q 1 ?_
   obtain⟨i6,i7,i8,i9,ja,jb,jc,jd,rfl,je,f1,jf,f2,f3,f4,f5,f6,f7,f8,jg⟩:=BV.ex b7
   obtain⟨d7,cp,rfl,jh⟩:=(f1).len
   obtain⟨d8,cq,rfl,ji⟩:=(f2).len
   obtain⟨d9,cr,rfl,jj⟩:=(f3).len
   obtain⟨ea,ct,rfl,jk⟩:=(f4).len
   obtain⟨eb,cu,rfl,jl⟩:=(f5).len
   obtain⟨ec,cv,rfl,jm⟩:=(f6).len
   obtain⟨ed,cw,rfl,jn⟩:=(f7).len
   obtain⟨ee,cx,rfl,jo⟩:=(f8).len
   exact QF.bld (cs:=[.string c.Name,(.slice d7 c.Owners.length cp),.int .i64 c.Cells,(.slice d8 c.Places.length cq),(.slice d9 c.Links.length cr),(.slice ea c.Towns.length ct),(.slice eb c.Gauges.length cu),(.slice ec c.Roads.length cv),(.slice ed c.Shelters.length cw),(.slice ee c.Room.length cx),.int .i64 c.Err,.int .i64 d.Hour,(.slice H ae.length C),(.slice a7 d.Queue.length ah),(.slice ag a6.length F),(.slice (some ⟨f0,0,none⟩) (List.replicate ((↑c.Places.length:Int):Int).toNat ((⟨0,0⟩:AD):AD)).length co)]) W4 O O O (AG (AM (BX.refl _) ⟨trivial,O,O⟩))
  exact An.al O Wt O O (An.skip (by kernel_rfl) (trivial))
 intro jp aw f9 b8 jq ga jr gb gc js jt ge ef eg
 obtain⟨c2,bf,rfl,gf,gg,gh⟩:=gb
 obtain⟨ab,rfl,gi,gj,gk⟩:=ge
 have eh:=(OA.cons (Sn (OA.nil g aw) gf gg gh List.not_mem_nil) gi gj gk (Y6 (ef.of_ (s:=13) (s':=29) (by kernel_rfl) O O O O) List.not_mem_nil)).st
 have b8:Rd _ _ BV f9 c:=b8
 obtain⟨rfl,bg⟩:=ga
 obtain⟨ju,jv,jw,jx,jy,jz,j0,j1,rfl,bh,c3,bi,c4,c5,c6,c7,c8,c9,da,bj⟩:=BV.ex b8
 obtain⟨ai,I,rfl,j2⟩:=(c3).len
 obtain⟨aj,J,rfl,j3⟩:=(c4).len
 obtain⟨ak,K,rfl,j4⟩:=(c5).len
 obtain⟨am,M,rfl,j5⟩:=(c6).len
 obtain⟨an,Q,rfl,j6⟩:=(c7).len
 obtain⟨ao,U,rfl,j7⟩:=(c8).len
 obtain⟨ap,V,rfl,j8⟩:=(c9).len
 obtain⟨aq,W,rfl,j9⟩:=(da).len
 obtain rfl:gc=Value.agg #[.string c.Name,(.slice ai c.Owners.length I),.int .i64 c.Cells,(.slice aj c.Places.length J),(.slice ak c.Links.length K),(.slice am c.Towns.length M),(.slice an c.Gauges.length Q),(.slice ao c.Roads.length U),(.slice ap c.Shelters.length V),(.slice aq c.Room.length W),.int .i64 c.Err,.int .i64 d.Hour,(.slice H ae.length C),(.slice a7 d.Queue.length ah),(.slice ag a6.length F),(.slice (some ⟨c2,0,none⟩) (List.replicate ((↑c.Places.length:Int):Int).toNat ((⟨0,0⟩:AD):AD)).length bf)]:=(Option.some.inj (eg _ List.mem_cons_self 30 _ (by kernel_rfl) O O)).symm
 refine Ad (vs:=[.string c.Name,(.slice ai c.Owners.length I),.int .i64 c.Cells,(.slice aj c.Places.length J),(.slice ak c.Links.length K),(.slice am c.Towns.length M),(.slice an c.Gauges.length Q),(.slice ao c.Roads.length U),(.slice ap c.Shelters.length V),(.slice aq c.Room.length W),.int .i64 c.Err,.int .i64 d.Hour,(.slice H ae.length C),(.slice a7 d.Queue.length ah),(.slice ag a6.length F),(.slice (some ⟨c2,0,none⟩) (List.replicate ((↑c.Places.length:Int):Int).toNat ((⟨0,0⟩:AD):AD)).length bf)]) O O O O Wy O eh .head O λka b9 j=>LF.nil (kp [13,10,7,5,3,4] O) (WF.seq (WF.rl (LF.q 2 ?_)))
 have ei:=bv.trans (bw.trans (bx.trans (bz.trans (b0.trans ((aw.ext g.1).trans j)))))
 have db:=ii.mono ei
 refine QF.ld Af b9.1 O db PU (λe=>by cases e) O λkb gl=>QF.mv O O (AG ?_)
 have ej:=b9.sel [0,2,1,0,0,0] 0 O
 have dc:=c3.mono' j
 have dd:=c4.mono' j
 have de:=c5.mono' j
 have df:=c6.mono' j
 have dg:=c7.mono' j
 have dh:=c8.mono' j
 have di:=c9.mono' j
 have dj:=da.mono' j
 have dk:=fn.mono' ((aw.ext g.1).trans j)
 have ca:=e5.trans (bt.trans (b2.trans (bv.trans (bw.trans (bx.trans (bz.trans (b0.trans ((aw.ext g.1).trans j))))))))
 have gm:=a9.mono' ca
 obtain⟨gp,ek,E⟩:=bd E
 refine LF.call O O O ZT O (Kq (p0_w:=(⟨c,(⟨d.Hour,ae,d.Queue,a6⟩:BT),(List.replicate ((↑c.Places.length:Int):Int).toNat ((⟨0,0⟩:AD):AD))⟩:Ac)) ej bh dc bi dd de df dg dh di dj bj bg dk gl gm ek) λkc kd ke t p=>?_
 obtain⟨kf,rfl,el⟩:=p
 refine LF.nil (kp [13,10,7,5,4] O) (WF.seq (WF.rl (LF.q 1 (QF.mv O O (AG ?_)))))
 have dl:=dc.mono' t
 have dm:=dd.mono' t
 have dn:=de.mono' t
 have dp:=df.mono' t
 have dq:=dg.mono' t
 have dr:=dh.mono' t
 have ds:=di.mono' t
 have dt:=dj.mono' t
 have gq:=dk.mono' t
 have gr:=ba.mono' (ca.trans t)
 obtain⟨u,em,E⟩:=bd E
 refine LF.call O O O ZS O (JM (p0_w:=(⟨c,(⟨d.Hour,ae,d.Queue,gp⟩:BT),(List.replicate ((↑c.Places.length:Int):Int).toNat ((⟨0,0⟩:AD):AD))⟩:Ac)) el bh dl bi dm dn dp dq dr ds dt bj bg gq gr em) λkg cb kh bk p=>?_
 obtain⟨gs,X,ar,rfl,cc⟩:=p
 refine LF.nil (kp [13,10,7,5] O) (WF.seq (WF.rl (LF.q 3 ?_)))
 have en:=c0.trans ((aw.ext g.1).trans (j.trans (t.trans bk)))
 have du:=k6.mono en
 refine QF.fa O du A4 DW O λki gu=>QF.ldl Af cc.1 O gu Ff O λkj gv=>QF.len O gv E5 O λkk=>AG ?_
 obtain⟨eo,E⟩:=Q0 E
 refine LF.mke (r:=AF) (zx:=(⟨0,0⟩:AD)) QC O ⟨O,by unfold AD.ok AB;simp [IntKind.has,IntKind.min,IntKind.max,IntKind.bits,IntKind.signed]⟩ O O eo O O cc λau cd ce bl=>LF.q 1 (QF.as_ O O (AG (LF.nil (kp [14,13,10,7,5] O) (WF.seq (WF.seq (WF.rp (.inl O) ?_))))))
 have gw:=du.mono bl
 refine QF.fa O gw A4 DW O λkl gx=>QF.ldl Af ce.1 O gx Ff O λkm gz=>QF.len O gz E5 O λkn=>QF.mv O O (AA (kp [43,42,14,13,10,7] O) (WF.blockJ (λa w=>∃(cf:List AD) (ac:Value) (bm:List AD) (ad:Value) (bn:List Az),IV B cb cd (67,[]) a w [(14,au),(13,.pointer (some ⟨ab,0,none⟩)),(10,.pointer (some ⟨bu,0,none⟩))] (OS AF 51 ac bm::OS BS 93 ad bn::OS AF 51 au cf::Bx ab 106 [.string c.Name,(.slice ai c.Owners.length I),.int .i64 c.Cells,(.slice aj c.Places.length J),(.slice ak c.Links.length K),(.slice am c.Towns.length M),(.slice an c.Gauges.length Q),(.slice ao c.Roads.length U),(.slice ap c.Shelters.length V),(.slice aq c.Room.length W),.int .i64 c.Err,.int .i64 d.Hour,ac,ad,X,ar]::OS AZ 97 X u.2.1::OS AF 51 ar u.2.2::Bx bu 36 [.int .i64 0,.slice none 0 0,.slice none 0 0,.slice none 0 0]::L) λ_ _=>EH N d u cf bm bn=some r) ?_ ?_))
 ·
  refine WF.loopF (λn1=>λa w=>∃(av:Int) (ax:List AD) (bo:Value) (ay:List AD) (bp:Value) (az:List Az),IV B cb cd (67,[]) a w [(42,.int .i64 (↑c.Places.length:Int)),(14,au),(13,.pointer (some ⟨ab,0,none⟩)),(10,.pointer (some ⟨bu,0,none⟩)),(7,fg),(43,.int .i64 av)] (OS AF 51 bo ay::OS BS 93 bp az::OS AF 51 au ax::Bx ab 106 [.string c.Name,(.slice ai c.Owners.length I),.int .i64 c.Cells,(.slice aj c.Places.length J),(.slice ak c.Links.length K),(.slice am c.Towns.length M),(.slice an c.Gauges.length Q),(.slice ao c.Roads.length U),(.slice ap c.Shelters.length V),(.slice aq c.Room.length W),.int .i64 c.Err,.int .i64 d.Hour,bo,bp,X,ar]::OS AZ 97 X u.2.1::OS AF 51 ar u.2.2::Bx bu 36 [.int .i64 0,.slice none 0 0,.slice none 0 0,.slice none 0 0]::L) λ_ _=>AB av∧EG N c d a8 u (EH N d u) n1 av ax ay az=some r) N ?_ ?_ ?_
  ·
   intro aa ww hf hw
   have ep:=ce.sel [2,2,0,0,0,0,0] 1 O
   exact⟨0,(List.replicate ((↑c.Places.length:Int):Int).toNat (⟨0,0⟩:AD)),(.slice H ae.length C),ae,gs,u.1,_,_,hf.sub (kp [42,14,13,10,7,43] O),hw,ep,(Bc.refl cb cd),(iq (n:=0) O),E⟩
  ·
   rintro aa ww ⟨_,_,_,_,_,_,_,_,_,_,_,_,_,E⟩
   rw[EG] at E;cases E
  ·
   rintro n1 aa ww ⟨av,ax,bo,ay,bp,az,ko,kq,hf,hw,bb,bq,dv,E⟩
   refine WF.run ?_ hf hw
   clear hf hw ww aa
   rw[EG] at E
   refine WF.seq (WF.rp (.inl O) (QF.lss O O O (AA (kp [44,42,14,13,10,7,43] O) (WF.seq (WF.if_ O (λcg=>?_) (λcg=>?_))))))
   ·
    have E:=A0 cg E
    refine WF.skip (WF.seq (WF.block (WF.seq (WF.rp (.inl O) (QF.mv O O (QF.as_ O O (AA (kp [15,42,14,13,10,7,43] O) (WF.rl (LF.q 6 (QF.mv O O (QF.mv O O (QF.mv O O (QF.mv O O ?_)))))))))))))
    have eq:=t.trans (bk.trans (bl.trans bq))
    have g0:=db.mono eq
    refine QF.fa O g0 KR Rq O λkr g1=>QF.ldl Af bb.1 O g1 WR O λks g2=>AG ?_
    have er:=bb.sel [3,0,0,1,1,0,0] 0 O
    have D:=bk.trans (bl.trans bq)
    have dw:=dl.mono' D
    have dx:=dm.mono' D
    have dy:=dn.mono' D
    have dz:=dp.mono' D
    have d0:=dq.mono' D
    have d1:=dr.mono' D
    have d2:=ds.mono' D
    have d3:=dt.mono' D
    obtain⟨kt,es,E⟩:=bd E
    refine LF.call O O O ZQ O (Ks (p0_w:=(⟨c,(⟨d.Hour,ay,az,u.2.1⟩:BT),u.2.2⟩:Ac)) er bh dw bi dx dy dz d0 d1 d2 d3 bj bg dv g2 es) λku kv kw Y p=>?_
    have et:=p
    obtain⟨kx,eu,Z,g3⟩:=et.pubs .head
    have g4:=dw.mono' (Y.trans Z)
    have g5:=dx.mono' (Y.trans Z)
    have g6:=dy.mono' (Y.trans Z)
    have g7:=dz.mono' (Y.trans Z)
    have g8:=d0.mono' (Y.trans Z)
    have g9:=d1.mono' (Y.trans Z)
    have ha:=d2.mono' (Y.trans Z)
    have hc:=d3.mono' (Y.trans Z)
    obtain⟨br,ev,E⟩:=bd E
    refine LF.call O O O ZR O (Kr (p0_w:=(⟨c,(⟨d.Hour,ay,az,u.2.1⟩:BT),u.2.2⟩:Ac)) eu bh g4 bi g5 g6 g7 g8 g9 ha hc bj bg dv g3 ev) λky kz k0 hd p=>?_
    obtain⟨he,hg,rfl,⟨hj,hk⟩,ch⟩:=p
    refine LF.q 1 ?_
    obtain⟨k1,ew,E⟩:=bd E
    refine QF.ixoe ch (mt (mt (mt (mt (mt mh))))) O O FM ew O λk2 ey=>AG ?_
    obtain⟨hl,ez,E⟩:=bd E
    refine LF.ste (r:=AF) (l:=ax) (i:=av) (x:=hl) O O (AF.mk (x:=br.1) ⟨hj,hk⟩) ey ez MA.id Ag (λe=>by cases e) ch (.tail (.tail (.tail (.tail (.tail .head))))) λk3 e0 hm=>LF.nil (kp [42,14,13,10,7,43] O) (Ap (WF.rp (.inl O) (QF.addw O O O (QF.mv O O (AA (kp [43,42,14,13,10,7] O) (WF.nil (λaa ww hf hw=>?_)))))))
    have e1:=e0.sel [1,1,3,0,0,0,0] 0 O
    have e2:=bq.trans (Y.trans (Z.trans (hd.trans hm)))
    exact⟨(Aw (av+1)),(upd ax av br.1),he,br.2.1,hg,br.2.2,_,_,hf.sub (kp [42,14,13,10,7,43] O),hw,e1,e2,(BA _),E⟩
   ·
    have E:=A3 cg E
    refine WF.exit O (λaa ww hf hw=>?_)
    exact⟨ax,bo,ay,bp,az,_,_,hf.sub (kp [14,13,10] O),hw,bb,bq,E⟩
 ·
  rintro aa ww ⟨cf,ac,bm,ad,bn,k4,k5,hf,hw,ci,hn,E⟩
  refine WF.run ?_ hf hw
  clear hf hw ww aa
  rw[EH] at E
  refine WF.seq (WF.rl (LF.q 6 (QF.fao O EE O (QF.fao O Iq O (AI Af ci O (mt (mt (mt mh))) O AL O (QF.addw O O O (QF.fao O EE O (QF.fao O Iq O (AG (H3 (vs:=[.int .i64 (Aw (d.Hour+1))]) (cs':=[.string c.Name,(.slice ai c.Owners.length I),.int .i64 c.Cells,(.slice aj c.Places.length J),(.slice ak c.Links.length K),(.slice am c.Towns.length M),(.slice an c.Gauges.length Q),(.slice ao c.Roads.length U),(.slice ap c.Shelters.length V),(.slice aq c.Room.length W),.int .i64 c.Err,.int .i64 (Aw (d.Hour+1)),ac,ad,X,ar]) O O O O AL O ci (.tail (.tail (.tail .head))) O O λk8 G ho=>LF.nil (kp [14,13,10] O) (WF.seq (SC (m:=[(14,au),(13,.pointer (some ⟨ab,0,none⟩)),(10,.pointer (some ⟨bu,0,none⟩))]) 5 [6,7] [4] [2,3] [] (λi v hh=>match i with|0=>v= .pointer (some ⟨ab,11,none⟩)|1=>v= .agg #[.int .i64 (Aw (d.Hour+1)),ac,ad,X]∧AB (Aw (d.Hour+1))|2=>v= .pointer (some ⟨ab,15,none⟩)|3=>v=ar|4=>v=au|_=>False) [[],[(0,62)],[],[(2,64)],[],[],[],[]] [(1,63),(4,66)] mo (by kernel_rfl) [14,13,10] O (by kernel_rfl) (by kernel_rfl) (by kernel_rfl) O O (kp [14,13,10] O) (λi v h1 h2 o1 o2 hr=>?_) (by kernel_rfl) PH ?_ ?_ ?_))))))))))))
  ·match i,hr with
    |0,hr=>exact hr
    |1,hr=>exact hr
    |2,hr=>exact hr
    |3,hr=>exact hr
    |4,hr=>exact hr
    |_+5,hr=>exact hr.elim
  ·
   refine JG.cons [] (by kernel_rfl) O O (by kernel_rfl) ?_ ?_
   ·
    intro mq hh o
    intro a hf
    exact⟨au,KU hf O,O⟩
   exact trivial
  ·
   refine An.cons O O O ?_ ?_
   ·
    intro mq hh o
    have hsN:=o.st G
    exact LF.q 1 (QF.fao O EE O (AG (AM (BX.refl _) O)))
   refine An.cons O O O ?_ ?_
   ·
    intro mq hh o
    intro k9 hp
    have hsN:=o.st G
    cases hp
    exact LF.q 1 (QF.ldo (vs:=[.int .i64 (Aw (d.Hour+1)),ac,ad,X]) Af hsN O (mt (mt (mt mh))) O O H6 O O (AG (AM (BX.refl _) ⟨O,(BA _)⟩)))
   refine An.cons O O O ?_ ?_
   ·
    intro mq hh o
    have hsN:=o.st G
    exact LF.q 1 (QF.fao O Fk O (AG (AM (BX.refl _) O)))
   refine An.cons O O O ?_ ?_
   ·
    intro mq hh o
    intro la hq
    have hsN:=o.st G
    cases hq
    exact LF.q 1 (AI Af hsN O (mt (mt (mt mh))) O Gn O (AG (AM (BX.refl _) O)))
   refine An.cons O O O ?_ ?_
   ·
    intro mq hh o
    have hsN:=o.st G
    exact LF.q 1 (QF.mv O O (AG (AM (BX.refl _) O)))
   exact An.skip (by kernel_rfl) (An.skip (by kernel_rfl) (An.skip (by kernel_rfl) (trivial)))
  intro it lb d4 lc ht le hu iu
  have a2:=(OA.nil G d4).st
  obtain⟨rfl,hv⟩:=ht
  cases hu
  refine LF.st (vs:=[.int .i64 (Aw (d.Hour+1)),ac,ad,X]) (cs':=[.int .i64 (Aw (d.Hour+1)),ac,ad,X]) O O O (AC O (AC (a2.osone mh) (AC (a2.osone (mt mh)) (AC (a2.osone (mt (mt (mt (mt mh))))) Eo)))) H6 O a2 (.tail (.tail (.tail (.tail (.tail (.tail .head)))))) O O λlf a3 hx=>VB ⟨λi v hh=>match i with|2=>v= .pointer (some ⟨ab,15,none⟩)|3=>v=ar|_=>False,[[],[],[],[(2,64)],[],[],[],[]],[(3,65)],_,[66,63,14,13,10],O,by kernel_rfl,by kernel_rfl,by kernel_rfl,by kernel_rfl,O,λi hi v hr=>?_,λi v h1 h2 o1 o2 hr=>?_,?_,?_⟩
  ·
   rcases List.mem_cons.1 hi with rfl|hi
   ·exact hr
   rcases List.mem_cons.1 hi with rfl|hi
   ·exact hr
   cases hi
  ·match i,hr with
    |0,hr=>exact hr.elim
    |1,hr=>exact hr.elim
    |2,hr=>exact hr
    |3,hr=>exact hr
    |_+4,hr=>exact hr.elim
  ·
   refine An.skip (by kernel_rfl) (An.skip (by kernel_rfl) (An.cons O O O ?_ ?_))
   ·
    intro mq hh o
    have hsN:=o.st a3
    exact LF.q 1 (QF.fao O Fk O (AG (AM (BX.refl _) O)))
   refine An.cons O O O ?_ ?_
   ·
    intro mq hh o
    intro lg hy
    have hsN:=o.st a3
    cases hy
    exact LF.q 1 (AI Af hsN O (mt (mt (mt mh))) O Gn O (AG (AM (BX.refl _) O)))
   exact An.skip (by kernel_rfl) (An.skip (by kernel_rfl) (An.skip (by kernel_rfl) (An.skip (by kernel_rfl) (trivial))))
  intro lh d5 li hz
  have e3:=d5.st a3
  cases hz
  refine LF.q 1 (QF.as_ O O (AG (LF.q 1 (QF.as_ O O (AG (LF.nil (kp [12,11,10] O) (WF.ret (λaa ww hf hw=>?_))))))))
  obtain⟨lj,e4,h0,h4⟩:=e3.pubs .head
  obtain⟨ll,e6,d6,h5⟩:=e4.pubs .head
  obtain⟨lm,e7,cj,h6⟩:=e6.pubs (.tail (.tail .head))
  have ck:=e7.sel [2,0,1] 1 O
  have h7:=h4.mono' (d6.trans cj)
  have h8:=h5.mono' cj
  have e8:=ck.drop (.tail (.tail .head))
  cases E
  have e9:=e5.trans (bt.trans (b2.trans (bv.trans (bw.trans (bx.trans (bz.trans (b0.trans ((aw.ext g.1).trans (j.trans (t.trans (bk.trans (bl.trans (hn.trans (ho.trans ((d4.ext G.1).trans (hx.trans ((d5.ext a3.1).trans (h0.trans (d6.trans cj)))))))))))))))))))
  exact HQ hf O hw (Gk (LD hf hw ck O (mt (mt mh)) H6 O) (Gk (Jj hf (v:=_) O) (Gk (Jj hf (v:=_) O) HC))) O e9 ⟨_,_,_,O,(DI.mk (x:=(⟨(Aw (d.Hour+1)),bm,bn,u.2.1⟩:BT)) hv h7 h8 h6),e8⟩
theorem L4 {σ:Type}{yv:Value}{Y:Bool→σ→HP}{yld:(Int×(List AD))→σ→Option (Bool×σ)}{S0:Nat→Prop}{h0:AX}(yc:YC Tryz.prog yv Y (PQ AF) yld S0 h0) (e0:Bc S0 h0 S h) {s:σ}(hs:St S (Y true s::L) h) {af:Value}{c1_:BT}(ch:Pt S h DI af c1_) {ag:Value}{c2_:Int}(ci:Pt S h AV.int ag c2_) {t:Value}{c3_:(List BJ)}(cj:Pt S h (AV.sl Dt) t c3_) {u:Value}{c4_:AJ}(ao:Pt S h BV u c4_) {y:Value}{c5_:(List Bool)}(ck:Pt S h (AV.sl AV.bool) y c5_) {z:Value}{c6_:Be}(cl:Pt S h El z c6_) {r:Bool×σ}(E:Gx N c1_ c2_ c3_ c4_ c5_ c6_ yld s=some r):
 Bf Tryz.prog 119 #[yv,af,ag,t,u,y,z] S h (λv S' h'=>v= .tuple #[]∧St S' (Y r.1 r.2::L) h'):=by
 refine Ab (l:=[yv,af,ag,t,u,y,z]) 51 Tryz.func119 O Tryz.ntmps119 O λB=>?_
 rw[Gx] at E
 refine WF.seq (WF.rl (LF.q 1 (QF.ld Af hs.1 O ch H6 (λe=>by cases e) O λv1 k2=>AG (LF.al Ss O hs λb3 h4 gg e6=>?_))))
 have k7:=k2.mono e6
 obtain⟨cm,cn,co,rfl,r9,dj,dk,dl⟩:=DI.ex k7
 refine LF.st (vs:=[.int .i64 c1_.Hour,cm,cn,co]) (cs':=[.int .i64 c1_.Hour,cm,cn,co]) O O O (AC O (AC dj.one (AC dk.one (AC dl.one Eo)))) H6 O gg .head O O λdm bp C=>LF.nil (kp [8,0,2,3,4,5,6] O) (WF.seq (WF.rp (.inl O) ?_))
 have gh:=ci.mono (e6.trans C)
 refine QF.ldi Af bp.1 O gh AL O λic=>QF.mv O O (AA (kp [16,15,8,0,3,4,5,6] O) (WF.block (WF.loopF (λn0=>λa w=>∃(G:Int) (D:Int) (ak:Value) (ap:List AD) (am:Value) (aq:List Az) (an:Value) (ar:List AT) (au:σ),IV B S dm (51,[]) a w [(15,.int .i64 c2_),(8,.pointer (some ⟨b3,0,none⟩)),(0,yv),(3,t),(4,u),(5,y),(6,z),(16,.int .i64 G)] (Bx b3 36 [.int .i64 D,ak,am,an]::Y true au::L) λS' h'=>AB G∧AB D∧Sl S' h' AF ak ap∧Sl S' h' BS am aq∧Sl S' h' AZ an ar∧B3 N yld c2_ c3_ c4_ c5_ c6_ n0 G D ap aq ar au=some r) N ?_ ?_ ?_)))
 ·
  intro aa ww hf hw
  have gi:=dj.mono' C
  have gj:=dk.mono' C
  have gk:=dl.mono' C
  exact⟨0,c1_.Hour,cm,c1_.Vol,cn,c1_.Queue,co,c1_.Links,s,_,_,hf.sub (kp [15,8,0,3,4,5,6,16] O),hw,bp,(Bc.refl S dm),(iq (n:=0) O),r9,gi,gj,gk,E⟩
 ·
  rintro aa ww ⟨_,_,_,_,_,_,_,_,_,_,_,_,_,_,_,_,_,_,_,_,E⟩
  rw[B3] at E;cases E
 ·
  rintro n0 aa ww ⟨G,D,ak,ap,am,aq,an,ar,au,dn,id,hf,hw,bq,Q,gl,dp,gm,gp,gq,E⟩
  refine WF.run ?_ hf hw
  clear hf hw ww aa
  rw[B3] at E
  refine WF.seq (WF.rp (.inl O) (QF.lss O O O (AA (kp [17,15,8,0,3,4,5,6,16] O) (WF.seq (WF.if_ O (λcp=>?_) (λcp=>?_))))))
  ·
   have E:=A0 cp E
   refine WF.skip (WF.seq (WF.block (WF.seq (WF.rp (.inl O) (QF.mv O O (QF.as_ O O (AA (kp [9,15,8,0,3,4,5,6,16] O) (WF.seq (WF.rl (LF.q 1 (QF.bld (cs:=[.slice none 0 0,.slice none 0 0,.slice none 0 0,.slice none 0 0,.slice none 0 0]) Yc O O O (AG (LF.al YP O bq λcq ie dq U=>?_)))))))))))))
   refine Ad (vs:=[.slice none 0 0,.slice none 0 0,.slice none 0 0,.slice none 0 0,.slice none 0 0]) O O O O PU O dq .head O λdr ab V=>LF.nil (kp [10,9,15,8,0,3,4,5,6,16] O) (WF.seq (WF.seq (WF.rp (.inl O) (QF.mv O O ?_))))
   have ds:=e6.trans (C.trans (Q.trans (U.trans V)))
   have dt:=cj.mono ds
   refine QF.ldl Af ab.1 O dt WQ O λig gr=>QF.len O gr LY O λih=>QF.lss O O O (AA (kp [23,10,9,15,8,0,3,4,5,6,16] O) (WF.cut (λa w=>∃(av:Value) (bk:List Int) (aw:Value) (bl:List He) (ax:Value) (bm:List L9) (ay:Value) (bn:List Gl) (az:Value) (bo:List Ib),IV B dn dr (51,[]) a w [(10,.pointer (some ⟨cq,0,none⟩)),(9,.int .i64 G),(15,.int .i64 c2_),(8,.pointer (some ⟨b3,0,none⟩)),(0,yv),(3,t),(4,u),(5,y),(6,z),(16,.int .i64 G)] (Bx cq 42 [av,aw,ax,ay,az]::Bx b3 36 [.int .i64 D,ak,am,an]::Y true au::L) λS' h'=>Sl S' h' AV.int av bk∧Sl S' h' GQ aw bl∧Sl S' h' Ia ax bm∧Sl S' h' GL ay bn∧Sl S' h' G4 az bo∧EV N yld c4_ c5_ c6_ G D ap aq ar au (B3 N yld c2_ c3_ c4_ c5_ c6_ n0) bk bl bm bn bo=some r) ?_ ?_))
   ·
    refine WF.if_ O (λcr=>?_) (λcr=>?_)
    ·
     have E:=A0 cr E
     refine WF.rl (LF.q 4 (QF.ldl Af ab.1 O dt WQ O λii gs=>QF.mv O O ?_))
     obtain⟨a0,du,E⟩:=bd E
     refine QF.ixe O O gs LY du O λij gu=>QF.ld Af ab.1 O gu PU (λe=>by cases e) O λik gv=>AG ?_
     obtain⟨ct,cu,cv,cw,a1,rfl,dv,dw,dx,br,bt⟩:=Dt.ex gv
     refine LF.st (vs:=[ct,cu,cv,cw,a1]) (cs':=[ct,cu,cv,cw,a1]) O O O (AC dv.one (AC dw.one (AC dx.one (AC br.one (AC bt.one Eo))))) PU O ab .head O O λg4 cx H=>LF.nil (kp [10,9,15,8,0,3,4,5,6,16] O) (WF.nil (λaa ww hf hw=>?_))
     have dy:=dv.mono' H
     have dz:=dw.mono' H
     have d0:=dx.mono' H
     have d1:=br.mono' H
     have d2:=bt.mono' H
     exact⟨ct,a0.Rain,cu,a0.Faults,cv,a0.Cmds,cw,a0.Takes,a1,a0.Swaps,_,_,hf.sub (kp [10,9,15,8,0,3,4,5,6,16] O),hw,cx,H,dy,dz,d0,d1,d2,E⟩
    ·
     have E:=A3 cr E
     refine WF.skip (WF.nil (λaa ww hf hw=>?_))
     exact⟨.slice none 0 0,[],.slice none 0 0,[],.slice none 0 0,[],.slice none 0 0,[],.slice none 0 0,[],_,_,hf.sub (kp [10,9,15,8,0,3,4,5,6,16] O),hw,ab,(Bc.refl dn dr),(.inl ⟨O,O⟩),(.inl ⟨O,O⟩),(.inl ⟨O,O⟩),(.inl ⟨O,O⟩),(.inl ⟨O,O⟩),E⟩
   ·
    rintro aa ww ⟨av,bk,aw,bl,ax,bm,ay,bn,az,bo,g,j,hf,hw,c,A,gw,gx,gz,g0,g1,E⟩
    refine WF.run ?_ hf hw
    clear hf hw ww aa
    rw[EV] at E
    refine WF.seq ?_
    obtain⟨bu,cy,E⟩:=bd E
    obtain⟨d,cz,E⟩:=bd E
    refine V7 (m:=[(10,.pointer (some ⟨cq,0,none⟩)),(9,.int .i64 G),(15,.int .i64 c2_),(8,.pointer (some ⟨b3,0,none⟩)),(0,yv),(3,t),(4,u),(5,y),(6,z),(16,.int .i64 G)]) [17,18,19] [14,15] [16] (λX i v hh=>match i with|0=>Rd g hh BV v c4_|1=>v= .agg #[.int .i64 D,ak,am,an]∧AB D|2=>v= .agg #[av,aw,ax,ay,az]|3=>Sl g hh AV.bool v c5_|4=>Rd g hh El v c6_|5=>v= .pointer (some ⟨b3,0,none⟩)|6=>v= .int .i64 D∧AB D|7=>Pt g hh (AV.sl BO) v c4_.Places|8=>Sl g hh BO v c4_.Places|9=>v= .int .i64 (↑c4_.Places.length:Int)∧AB (↑c4_.Places.length:Int)|10=>Sl (SX g j hh X) hh AF v bu|11=>∃w0 w1 w2:Value,v= .tuple #[w0,w1,w2]∧(Rd (SX g j hh X) hh DI w0 d.1)∧(Sl (SX g j hh X) hh AF w1 d.2.1)∧(Sl (SX g j hh X) hh AF w2 d.2.2)|12=>∃w0 w1 w2:Value,v= .tuple #[w0,w1,w2]∧(Rd (SX g j hh X) hh DI w0 d.1)∧(Sl (SX g j hh X) hh AF w1 d.2.1)∧(Sl (SX g j hh X) hh AF w2 d.2.2)|13=>Rd (SX g j hh X) hh DI v d.1|14=>Sl (SX g j hh X) hh AF v d.2.1|15=>Sl (SX g j hh X) hh AF v d.2.2|16=>Od j 36 [.int .i64 0,.slice none 0 0,.slice none 0 0,.slice none 0 0] v hh|_=>False) [[],[],[],[],[],[],[(5,34)],[],[(7,36)],[(8,37)],[(4,33),(6,35),(9,38)],[(0,29),(1,30),(2,31),(3,32),(10,39)],[(11,40)],[(12,28)],[(12,28)],[(12,28)],[],[],[],[]] [(13,41),(14,42),(15,43),(16,11)] mo (by kernel_rfl) [10,9,15,8,0,3,4,5,6,16] O (by kernel_rfl) (by kernel_rfl) (by kernel_rfl) O (kp [10,9,15,8,0,3,4,5,6,16] O) (λi v h1 h2 X X' o1 o2 u1 u2 hr=>?_) (by kernel_rfl) (Uz (T:=36) (λ_=>rfl) V3) ?_ ?_ ?_
    ·match i,hr with
      |0,hr=>exact(Rd.mono hr (o2.ext λb hb=>Nat.lt_of_lt_of_le (c.1 b hb) o1.siz))
      |1,hr=>exact hr
      |2,hr=>exact hr
      |3,hr=>exact(Sl.mono' hr (o2.ext λb hb=>Nat.lt_of_lt_of_le (c.1 b hb) o1.siz))
      |4,hr=>exact(Rd.mono hr (o2.ext λb hb=>Nat.lt_of_lt_of_le (c.1 b hb) o1.siz))
      |5,hr=>exact hr
      |6,hr=>exact hr
      |7,hr=>exact(K1.mono hr (o2.ext λb hb=>Nat.lt_of_lt_of_le (c.1 b hb) o1.siz))
      |8,hr=>exact(Sl.mono' hr (o2.ext λb hb=>Nat.lt_of_lt_of_le (c.1 b hb) o1.siz))
      |9,hr=>exact hr
      |10,hr=>exact(Sl.mono' hr (SX.mono c.1 o1 o2 u1 u2))
      |11,hr=>obtain⟨w0,w1,w2,e,k0,k1,k2⟩:=hr;exact⟨w0,w1,w2,e,(Rd.mono k0 (SX.mono c.1 o1 o2 u1 u2)),(Sl.mono' k1 (SX.mono c.1 o1 o2 u1 u2)),(Sl.mono' k2 (SX.mono c.1 o1 o2 u1 u2))⟩
      |12,hr=>obtain⟨w0,w1,w2,e,k0,k1,k2⟩:=hr;exact⟨w0,w1,w2,e,(Rd.mono k0 (SX.mono c.1 o1 o2 u1 u2)),(Sl.mono' k1 (SX.mono c.1 o1 o2 u1 u2)),(Sl.mono' k2 (SX.mono c.1 o1 o2 u1 u2))⟩
      |13,hr=>exact(Rd.mono hr (SX.mono c.1 o1 o2 u1 u2))
      |14,hr=>exact(Sl.mono' hr (SX.mono c.1 o1 o2 u1 u2))
      |15,hr=>exact(Sl.mono' hr (SX.mono c.1 o1 o2 u1 u2))
      |16,hr=>exact hr.mono o2
      |_+17,hr=>exact hr.elim
    ·
     refine K6.cons [(12,28)] (by kernel_rfl) O O (by kernel_rfl) ?_ ?_
     ·
      intro X mq hh o
      intro g5 d3
      obtain⟨d4,bv,d5,rfl,bw,a2,bx⟩:=d3
      have bw:Rd _ _ DI d4 d.1:=bw
      have a2:Sl _ _ AF bv d.2.1:=a2
      have bx:Sl _ _ AF d5 d.2.2:=bx
      intro a hf
      exact⟨bv,NA hf O O,a2⟩
     refine K6.cons [(12,28)] (by kernel_rfl) O O (by kernel_rfl) ?_ ?_
     ·
      intro X mq hh o
      intro g6 d6
      obtain⟨d7,d8,bz,rfl,b0,b1,a3⟩:=d6
      have b0:Rd _ _ DI d7 d.1:=b0
      have b1:Sl _ _ AF d8 d.2.1:=b1
      have a3:Sl _ _ AF bz d.2.2:=a3
      intro a hf
      exact⟨bz,NA hf O O,a3⟩
     exact trivial
    ·
     refine ER.cons O O O ?_ ?_
     ·
      intro X mq hh o hX
      have hsN:=o.st c
      refine LF.q 1 ?_
      have d9:=ao.mono (e6.trans (C.trans (Q.trans (U.trans (V.trans (A.trans (o.ext c.1)))))))
      exact QF.ld Af hsN.1 O d9 F7 (λe=>by cases e) O λg7 ea=>AG (AM (BX.refl _) ea)
     refine ER.cons O O O ?_ ?_
     ·
      intro X mq hh o hX
      have hsN:=o.st c
      exact LF.q 1 (QF.ldo (vs:=[.int .i64 D,ak,am,an]) Af hsN O (mt mh) O O H6 O O (AG (AM (BX.refl _) ⟨O,dp⟩)))
     refine ER.cons O O O ?_ ?_
     ·
      intro X mq hh o hX
      have hsN:=o.st c
      exact LF.q 1 (QF.ldo (vs:=[av,aw,ax,ay,az]) Af hsN O mh O O PU O O (AG (AM (BX.refl _) O)))
     refine ER.cons O O O ?_ ?_
     ·
      intro X mq hh o hX
      have hsN:=o.st c
      refine LF.q 1 ?_
      have eb:=ck.mono (e6.trans (C.trans (Q.trans (U.trans (V.trans (A.trans (o.ext c.1)))))))
      exact QF.ldl Af hsN.1 O eb Ya O λg8 ec=>AG (AM (BX.refl _) ec)
     refine ER.cons O O O ?_ ?_
     ·
      intro X mq hh o hX
      have hsN:=o.st c
      refine LF.q 1 ?_
      have ed:=cl.mono (e6.trans (C.trans (Q.trans (U.trans (V.trans (A.trans (o.ext c.1)))))))
      exact QF.ld Af hsN.1 O ed ND (λe=>by cases e) O λg9 ee=>AG (AM (BX.refl _) ee)
     refine ER.cons O O O ?_ ?_
     ·
      intro X mq hh o hX
      have hsN:=o.st c
      exact LF.q 1 (QF.fao O Iq O (AG (AM (BX.refl _) O)))
     refine ER.cons O O O ?_ ?_
     ·
      intro X mq hh o hX
      intro ha ef
      have hsN:=o.st c
      cases ef
      exact LF.q 1 (AI Af hsN O (mt mh) O AL O (AG (AM (BX.refl _) ⟨O,dp⟩)))
     refine ER.cons O O O ?_ ?_
     ·
      intro X mq hh o hX
      have hsN:=o.st c
      refine LF.q 1 ?_
      have eg:=ao.mono (e6.trans (C.trans (Q.trans (U.trans (V.trans (A.trans (o.ext c.1)))))))
      exact QF.fa O eg A4 DW O λhc eh=>AG (AM (BX.refl _) eh)
     refine ER.cons O O O ?_ ?_
     ·
      intro X mq hh o hX
      intro ei a4
      have hsN:=o.st c
      have a4:Pt _ _ (AV.sl BO) ei c4_.Places:=a4
      exact LF.q 1 (QF.ldl Af hsN.1 O a4 Ff O λhd ej=>AG (AM (BX.refl _) ej))
     refine ER.cons O O O ?_ ?_
     ·
      intro X mq hh o hX
      intro ek a5
      have hsN:=o.st c
      have a5:Sl _ _ BO ek c4_.Places:=a5
      exact LF.q 1 (QF.len O a5 E5 O λel=>AG (AM (BX.refl _) ⟨O,(Jk el)⟩))
     refine ER.cons O O O ?_ ?_
     ·
      intro X mq hh o hX
      intro em ac he en hg eo
      have hsN:=MU (X:=X) c o
      have ac:=Rd.mono (S':=(SX g j hh X)) ac ⟨λb hb=>(SX.ext c.1 o hX).sub b hb,λ_ _=>rfl,Nat.le_refl _⟩
      have ac:Rd _ _ El em c6_:=ac
      obtain⟨rfl,ep⟩:=en
      obtain⟨rfl,eq⟩:=eo
      have hsF:=hsN.fz
      refine LF.callb O O O Xo O hsF (QK (St.all _) (ac.mono ⟨λb hb=>hsF.1 b hb,λ_ _=>rfl,Nat.le_refl _⟩) ep eq cy) λhi hj hk g2 er es p=>?_
      have c0:=p
      have a6:=hsF.join es c0 ⟨OS.flat (λ{_ _ _ _ _ _} k=>k),trivial⟩
      simp only[List.cons_append,List.nil_append] at a6
      obtain⟨hl,c1,et,eu⟩:=a6.pubs .head
      have a7:=SX.done o hX (er.trans et) c1
      exact AM a7.1 (Sl.mono' eu a7.2)
     refine ER.cons O O O ?_ ?_
     ·
      intro X mq hh o hX
      intro ev ad hm ew hn ey ez ae e1 a8
      have hsN:=MU (X:=X) c o
      have ad:=Rd.mono (S':=(SX g j hh X)) ad ⟨λb hb=>(SX.ext c.1 o hX).sub b hb,λ_ _=>rfl,Nat.le_refl _⟩
      have ad:Rd _ _ BV ev c4_:=ad
      obtain⟨rfl,e2⟩:=ew
      cases ey
      have ae:=Sl.mono' (S':=(SX g j hh X)) ae ⟨λb hb=>(SX.ext c.1 o hX).sub b hb,λ_ _=>rfl,Nat.le_refl _⟩
      have ae:Sl _ _ AV.bool ez c5_:=ae
      have a8:Sl _ _ AF e1 bu:=a8
      have hsF:=hsN.fz
      have ah:=U.trans (V.trans (A.trans (SX.ext c.1 o hX)))
      have e3:=gm.mono' ah
      have e4:=gp.mono' ah
      have e5:=gq.mono' ah
      have e7:=gw.mono' (SX.ext c.1 o hX)
      have e8:=gx.mono' (SX.ext c.1 o hX)
      have e9:=gz.mono' (SX.ext c.1 o hX)
      have fb:=g0.mono' (SX.ext c.1 o hX)
      have fc:=g1.mono' (SX.ext c.1 o hX)
      refine LF.call O O O Zj O (N4 hsF ad (DI.mk (x:=(⟨D,ap,aq,ar⟩:BT)) e2 e3 e4 e5) (Dt.mk (x:=(⟨bk,bl,bm,bn,bo⟩:BJ)) e7 e8 e9 fb fc) ae a8 cz) λho hp hq fd p=>?_
      obtain⟨ht,hu,hv,rfl,fe,c2⟩:=p
      obtain⟨hx,c3,b2,ff⟩:=c2.pubs .head
      obtain⟨hy,c4,a9,fg⟩:=c3.pubs .head
      have fh:=fe.mono (b2.trans a9)
      have fi:=ff.mono' a9
      have c5:=fd.trans (b2.trans a9)
      have W:=SX.done o hX c5 c4
      exact AM W.1 ⟨_,_,_,O,(Rd.mono fh W.2),(Sl.mono' fi W.2),(Sl.mono' fg W.2)⟩
     refine ER.cons O O O ?_ ?_
     ·
      intro X mq hh o hX
      intro hz fj
      have hsN:=MU (X:=X) c o
      obtain⟨fk,fl,fm,rfl,ba,bb,bc⟩:=fj
      have ba:Rd _ _ DI fk d.1:=ba
      have bb:Sl _ _ AF fl d.2.1:=bb
      have bc:Sl _ _ AF fm d.2.2:=bc
      exact LF.q 1 (QF.mv O O (AG (AM (BX.refl _) ⟨_,_,_,O,ba,bb,bc⟩)))
     refine ER.cons O O O ?_ ?_
     ·
      intro X mq hh o hX
      intro h3 fn
      have hsN:=MU (X:=X) c o
      obtain⟨fo,fp,fq,rfl,be,b4,b5⟩:=fn
      have be:Rd _ _ DI fo d.1:=be
      have b4:Sl _ _ AF fp d.2.1:=b4
      have b5:Sl _ _ AF fq d.2.2:=b5
      exact LF.q 1 (QF.ext O O O (AG (AM (BX.refl _) be)))
     refine ER.cons O O O ?_ ?_
     ·
      intro X mq hh o hX
      intro h5 fr
      have hsN:=MU (X:=X) c o
      obtain⟨fs,ft,fu,rfl,b6,bf,b7⟩:=fr
      have b6:Rd _ _ DI fs d.1:=b6
      have bf:Sl _ _ AF ft d.2.1:=bf
      have b7:Sl _ _ AF fu d.2.2:=b7
      exact LF.q 1 (QF.ext O O O (AG (AM (BX.refl _) bf)))
     refine ER.cons O O O ?_ ?_
     ·
      intro X mq hh o hX
      intro h6 fv
      have hsN:=MU (X:=X) c o
      obtain⟨fw,fx,fy,rfl,b8,b9,bg⟩:=fv
      have b8:Rd _ _ DI fw d.1:=b8
      have b9:Sl _ _ AF fx d.2.1:=b9
      have bg:Sl _ _ AF fy d.2.2:=bg
      exact LF.q 1 (QF.ext O O O (AG (AM (BX.refl _) bg)))
     exact ER.al (λ_=>rfl) Ss O (ER.skip (by kernel_rfl) (ER.skip (by kernel_rfl) (ER.skip (by kernel_rfl) (trivial))))
    intro h7 X308 ai hX309 f0 bh f1 bi f2 ca h8 f3 g3 c6
    obtain⟨h9,rfl,f4,f5,f6⟩:=f3
    have c7:=(WL.cons (WL.nil c ai hX309) f4 f5 f6 List.not_mem_nil (c6.at_ (s:=11) (by kernel_rfl) O O)).st
    have bh:Rd _ _ DI f0 d.1:=bh
    have bi:Sl _ _ AF f1 d.2.1:=bi
    have ca:Sl _ _ AF f2 d.2.2:=ca
    obtain⟨I,J,K,rfl,f7,cb,cc,cd⟩:=DI.ex bh
    refine LF.st (vs:=[.int .i64 d.1.Hour,I,J,K]) (cs':=[.int .i64 d.1.Hour,I,J,K]) O O O (AC O (AC cb.one (AC cc.one (AC cd.one Eo)))) H6 O c7 .head O O λia c8 F=>LF.q 1 (QF.as_ O O (AG (LF.q 1 (QF.as_ O O (AG (LF.nil (kp [12,11,9,15,8,0,3,4,5,6,16] O) (WF.seq (WF.seq (U1 (IX 3 Kn (QF.mv O O (QF.mv O O ?_))))))))))))
    refine QF.mv O O (QF.yn ?_)
    have f8:=bi.mono' F
    have c9:=c8.pick (.tail (.tail (.tail .head)))
    obtain⟨f9,da,E⟩:=bd E
    have db:=e6.trans (C.trans (Q.trans (U.trans (V.trans (A.trans ((SX.ext c.1 ai hX309).trans F))))))
    refine SA yc O O da (e0.trans db) c9 ⟨_,O,gl,f8⟩ O (λbj ga gb M Z=>?_) (λbj ga gb M Z=>?_)
    ·
     have E:=A0 bj E
     refine IX 1 Kn (QF.not O O (QF.yn (YL.nil (kp [48,11,15,8,0,3,4,5,6,16] O) (WF.ifF O (WF.skip (WF.rl (LF.q 1 (QF.ldo (vs:=[.int .i64 d.1.Hour,I,J,K]) Af Z O (mt mh) O O H6 O O (AG ?_)))))))))
     have ce:=cd.mono' (F.trans M)
     have cf:=cc.mono' (F.trans M)
     have cg:=cb.mono' (F.trans M)
     refine LF.st (vs:=[.int .i64 d.1.Hour,I,J,K]) (cs':=[.int .i64 d.1.Hour,I,J,K]) O O O (AC O (AC cg.one (AC cf.one (AC ce.one Eo)))) H6 O Z (.tail (.tail (.tail .head))) O O λib dc aj=>LF.nil (kp [15,8,0,3,4,5,6,16] O) (Ap (WF.rp (.inl O) (QF.addw O O O (QF.mv O O (AA (kp [16,15,8,0,3,4,5,6] O) (WF.nil (λaa ww hf hw=>?_)))))))
     have dd:=dc.sel [3,0] 2 O
     have gc:=cg.mono' aj
     have ge:=cf.mono' aj
     have gf:=ce.mono' aj
     have de:=Q.trans (U.trans (V.trans (A.trans ((SX.ext c.1 ai hX309).trans (F.trans (M.trans aj))))))
     exact⟨(Aw (G+1)),d.1.Hour,I,d.1.Vol,J,d.1.Queue,K,d.1.Links,f9.2,_,_,hf.sub (kp [15,8,0,3,4,5,6,16] O),hw,dd,de,(BA _),f7,gc,ge,gf,E⟩
    ·
     have E:=A3 bj E
     refine IX 1 Kn (QF.not O O (QF.yn (YL.nil (kp [48,11,15,8,0,3,4,5,6,16] O) (WF.ifT O (WF.ret (λaa ww hf hw=>?_))))))
     have df:=Z.sel [0] 3 O
     cases E
     have dg:=e6.trans (C.trans (Q.trans (U.trans (V.trans (A.trans ((SX.ext c.1 ai hX309).trans (F.trans M)))))))
     exact HQ hf O hw HC O dg ⟨O,df⟩
  ·
   have E:=A3 cp E
   refine Hu O (WF.nil (λaa ww hf hw=>?_))
   have dh:=bq.sel [1] 1 O
   cases E
   have di:=e6.trans (C.trans Q)
   exact HQ hf O hw HC O di ⟨O,dh⟩
theorem G1 (hs:St S L h) {X:Value}{M:AJ}(ba:Rd S h BV X M) {i:Int}(bv:AB i) {Z:Value}{ac:BT}(bb:Rd S h DI Z ac) {j:Value}{z:(List Be)}(A:Sl S h El j z) {g:Value}{y:(List BJ)}(aw:Sl S h Dt g y) {d:Value}{s:(List Bool)}(ak:Sl S h AV.bool d s) {c:Int}(ad:AB c) {r:B4}(E:EC N M i ac z y s c=some r):
 Bf Tryz.prog 18 #[X,.int .i64 i,Z,j,g,d,.int .i64 c] S h (λv S' h'=>v= .agg #[.int .i64 r.Crest,.bool r.Quorum]∧B4.ok r∧St S' (L) h'):=by
 refine Ab (l:=[X,.int .i64 i,Z,j,g,d,.int .i64 c]) 87 Tryz.func18 O Tryz.ntmps18 O λB=>?_
 rw[EC] at E
 have hsd:=U4 hs
 refine WF.seq (WF.rl (LF.boxp O ba (λe=>by cases e) O hsd λq1 S2 h3 eu e5 k6=>?_))
 have k7:=bb.mono e5
 refine LF.boxp O k7 (λe=>by cases e) O eu λq8 S9 f8 cq am ev=>LF.al WO O cq λK f9 ae af=>LF.nil (kp [14,9,7,1,3,4,5,6] O) (WF.seq (WF.seq (WF.rp (.inl O) (QF.mv O O (QF.lss O O O (QF.mv O O (QF.cutv 6 31 (.bool ((decide (i<0))||(decide ((↑M.Towns.length:Int)≤i)))) ?_ ?_)))))))
 ·
  cases ga:(decide (i<0))
  ·
   refine QF.gy O O O (QF.mv O O (QF.gy O O O ?_))
   have ew:=k6.mono (am.trans af)
   exact QF.fa O ew FA JP O λgb ey=>QF.gy O O O (QF.ldl Af ae.1 O ey NC O λgc ez=>QF.gy O O O (QF.len O ez La O λge=>QF.gy O O O (QF.geq O O O (QF.pick O O O (AH O)))))
  ·exact AK O O
 refine AA (kp [31,14,9,7,1,3,4,5,6] O) (WF.if_ O (λbw=>?_) (λbw=>?_))
 ·
  have E:=A0 bw E
  refine WF.seq (WF.rl (LF.q 1 (QF.bld (cs:=[.int .i64 (-1),.bool false]) LW O O O (AG (Ad (vs:=[.int .i64 (-1),.bool false]) O O O O MW O ae .head O λgf cr e0=>LF.nil (kp [14] O) (WF.ret (λaa ww hf hw=>?_)))))))
  have ct:=cr.sel [1,0] 0 O
  have cu:=e5.trans (am.trans (af.trans e0))
  refine VV (vs:=[.agg #[.int .i64 (-1),.bool false]]) hf O hw ct O cu λw9 gg bx be gh=>?_
  have cv:=be.drop .head
  cases E
  exact⟨(Gk (LD hf bx be O mh MW O) HC),⟨O,(iq (n:=(-1)) O),cv⟩⟩
 ·
  have E:=A3 bw E
  refine WF.skip (WF.seq (WF.rl (LF.q 5 ?_)))
  have cw:=k6.mono (am.trans af)
  refine QF.fa O cw FA JP O λgi e2=>QF.ldl Af ae.1 O e2 NC O λgj e3=>QF.mv O O ?_
  obtain⟨b,cx,E⟩:=bd E
  refine QF.ixe O O e3 La cx O λgk e4=>QF.ld Af ae.1 O e4 Iw (λe=>by cases e) O λgl e6=>AG (LF.al Of O ae λC gm cy an=>?_)
  have e7:=e6.mono an
  obtain⟨rfl,⟨gp,gq,gr,gs,gu,gv,gw⟩⟩:=EK.ex e7
  refine Ad (vs:=[.string b.Name,.int .i64 b.Place,.int .i64 b.Flood,.int .i64 b.Lead,.int .i64 b.People,.int .i64 b.Watch,.int .i64 b.Quorum]) O O O O Iw O cy .head O λcz bf ax=>LF.nil (kp [15,14,9,7,3,4,5,6] O) (WF.seq (WF.rp (.inl O) (QF.mv O O (QF.as_ O O (AA (kp [16,15,14,9,7,4,5,6] O) (WF.seq (WF.seq (WF.rp (.inl O) (QF.mv O O ?_)))))))))
  have c0:=e5.trans (am.trans (af.trans (an.trans ax)))
  have e8:=A.mono' c0
  refine QF.len O e8 LZ O λgx=>QF.eql O O O (AA (kp [41,16,15,14,9,7,4,5,6] O) (WF.cut (λa w=>∃(ay:Value) (ao:List Be),IV B S9 cz (87,Jd ([])) a w [(15,.pointer (some ⟨C,0,none⟩)),(14,.pointer (some ⟨K,0,none⟩)),(9,q8),(7,q1),(4,g),(5,d),(6,.int .i64 c),(16,ay)] (Bx C 114 [.string b.Name,.int .i64 b.Place,.int .i64 b.Flood,.int .i64 b.Lead,.int .i64 b.People,.int .i64 b.Watch,.int .i64 b.Quorum]::Bx K 64 [.int .i64 0,.bool false]::QX ([])::L) λS' h'=>Sl S' h' El ay ao∧Fw N M ac y s c b ao=some r) ?_ ?_))
  ·
   refine WF.if_ O (λbz=>?_) (λbz=>?_)
   ·
    have E:=A0 bz E
    refine WF.rl (LF.q 1 (QF.bld (cs:=[.int .i64 0,.int .i64 0,.slice none 0 0]) W2 O O O (AG (Hd (cs:=[.int .i64 0,.int .i64 0,.slice none 0 0]) ZD O O O O O O O bf λe9 gz c1 fb=>LF.q 1 (QF.as_ O O (AG (LF.nil (kp [16,15,14,9,7,4,5,6] O) (WF.nil (λaa ww hf hw=>?_)))))))))
    have c2:=c1.bxos (r:=El) (l:=([(⟨0,0,[]⟩:Be)]:List Be)) .head ⟨_,_,O,⟨_,O,(iq (n:=0) O),(iq (n:=0) O),(.inl ⟨O,O⟩)⟩,O⟩ (by simp [maxLen])
    obtain⟨g0,c3,fc,fd⟩:=c2.pubs .head
    exact⟨(.slice (some ⟨e9,0,none⟩) 1 1),([(⟨0,0,[]⟩:Be)]:List Be),_,_,hf.sub (kp [15,14,9,7,4,5,6,16] O),hw,c3,(fb.trans fc),fd,E⟩
   ·
    have E:=A3 bz E
    refine WF.skip (WF.nil (λaa ww hf hw=>?_))
    have c4:=e5.trans (am.trans (af.trans (an.trans ax)))
    have fe:=A.mono' c4
    exact⟨j,z,_,_,hf.sub (kp [15,14,9,7,4,5,6,16] O),hw,bf,(Bc.refl S9 cz),fe,E⟩
  ·
   rintro aa ww ⟨ay,ao,b0,g1,hf,hw,c5,bc,ff,E⟩
   refine WF.run ?_ hf hw
   clear hf hw ww aa
   rw[Fw] at E
   refine WF.seq (WF.rl (LF.al VI O c5 λD g2 c6 az=>Ad (vs:=[.int .i64 (-1)]) O O O O AL O c6 .head O λg3 c7 a0=>LF.nil (kp [17,15,14,9,7,4,5,6,16] O) (WF.seq (WF.rl (LF.q 2 (QF.mv O O (QF.min O O O (AG (LF.al VI O c7 λab g4 c8 a1=>Ad (vs:=[.int .i64 (min c 24)]) O O O O AL O c8 .head O λb1 c9 a2=>LF.nil (kp [18,17,15,14,9,7,4,5,16] O) ?_)))))))))
   refine WF.seq (WF.seq (WF.rp (.inl O) (QF.mv O O ?_)))
   have da:=az.trans (a0.trans (a1.trans a2))
   have db:=ff.mono' da
   refine QF.len O db LZ O λg5=>QF.mv O O (AA (kp [48,47,46,18,17,15,14,9,7,4,5] O) (WF.blockJ (λa w=>∃(F:Int) (Ds102:List Nat),IV B b0 b1 (87,Jd Ds102) a w [(17,.pointer (some ⟨D,0,none⟩)),(14,.pointer (some ⟨K,0,none⟩))] (Bx D 3 [.int .i64 F]::Bx K 64 [.int .i64 0,.bool false]::QX Ds102::L) λ_ _=>AB F∧Cz N F=some r) ?_ ?_))
   ·
    refine WF.loopF (λn2=>λa w=>∃(G:Int) (ag:Int) (Q:Int) (Ds116:List Nat),IV B b0 b1 (87,Jd Ds116) a w [(47,.int .i64 (↑ao.length:Int)),(46,ay),(18,.pointer (some ⟨ab,0,none⟩)),(17,.pointer (some ⟨D,0,none⟩)),(15,.pointer (some ⟨C,0,none⟩)),(14,.pointer (some ⟨K,0,none⟩)),(9,q8),(7,q1),(4,g),(5,d),(48,.int .i64 G)] (Bx ab 3 [.int .i64 ag]::Bx D 3 [.int .i64 Q]::Bx C 114 [.string b.Name,.int .i64 b.Place,.int .i64 b.Flood,.int .i64 b.Lead,.int .i64 b.People,.int .i64 b.Watch,.int .i64 b.Quorum]::Bx K 64 [.int .i64 0,.bool false]::QX Ds116::L) λ_ _=>AB G∧AB ag∧AB Q∧CJ N M ac y s b ao (Cz N) n2 G ag Q=some r) N ?_ ?_ ?_
    ·
     intro aa ww hf hw
     exact⟨0,(min c 24),(-1),([]),_,_,hf.sub (kp [47,46,18,17,15,14,9,7,4,5,48] O),hw,c9,(Bc.refl b0 b1),(iq (n:=0) O),(Gg ad (iq (n:=24) O)),(iq (n:=(-1)) O),E⟩
    ·
     rintro aa ww ⟨_,_,_,_,_,_,_,_,_,_,_,_,_,E⟩
     rw[CJ] at E;cases E
    ·
     rintro n2 aa ww ⟨G,ag,Q,Ds116,dc,dd,hf,hw,ap,U,fh,bg,bh,E⟩
     refine WF.run ?_ hf hw
     clear hf hw ww aa
     rw[CJ] at E
     refine WF.seq (WF.rp (.inl O) (QF.lss O O O (AA (kp [49,47,46,18,17,15,14,9,7,4,5,48] O) (WF.seq (WF.if_ O (λa3=>?_) (λa3=>?_))))))
     ·
      have E:=A0 a3 E
      refine WF.skip (WF.seq (WF.blockJ (λa w=>∃(ah:Int) (ai:Int) (Ds126:List Nat),IV B dc dd (87,Jd Ds126) a w [(47,.int .i64 (↑ao.length:Int)),(46,ay),(18,.pointer (some ⟨ab,0,none⟩)),(17,.pointer (some ⟨D,0,none⟩)),(15,.pointer (some ⟨C,0,none⟩)),(14,.pointer (some ⟨K,0,none⟩)),(9,q8),(7,q1),(4,g),(5,d),(48,.int .i64 G)] (Bx ab 3 [.int .i64 ah]::Bx D 3 [.int .i64 ai]::Bx C 114 [.string b.Name,.int .i64 b.Place,.int .i64 b.Flood,.int .i64 b.Lead,.int .i64 b.People,.int .i64 b.Watch,.int .i64 b.Quorum]::Bx K 64 [.int .i64 0,.bool false]::QX Ds126::L) λ_ _=>AB ah∧AB ai∧Fv N G (CJ N M ac y s b ao (Cz N) n2) ah ai=some r) ?_ ?_))
      ·
       refine WF.seq (WF.rl (LF.q 2 ?_))
       have de:=db.mono' U
       obtain⟨t,b2,E⟩:=bd E
       refine QF.ixe O O de LZ b2 O λfi df=>QF.ld Af ap.1 O df ND (λe=>by cases e) O λfj dg=>AG (LF.al Ws O ap λbi fk b3 V=>?_)
       have dh:=dg.mono V
       obtain⟨aj,rfl,di,dj,bj⟩:=El.ex dh
       refine LF.st (vs:=[.int .i64 t.Id,.int .i64 t.From,aj]) (cs':=[.int .i64 t.Id,.int .i64 t.From,aj]) O O O (AC O (AC O (AC bj.one Eo))) ND O b3 .head O O λfl H W=>LF.nil (kp [20,47,46,18,17,15,14,9,7,4,5,48] O) (WF.seq (WF.rl (LF.q 6 ?_)))
       have b4:=an.trans (ax.trans (bc.trans (az.trans (a0.trans (a1.trans (a2.trans (U.trans (V.trans W))))))))
       have dk:=cw.mono b4
       refine QF.ld Af H.1 O dk F7 (λe=>by cases e) O λfm dl=>?_
       have b5:=af.trans (an.trans (ax.trans (bc.trans (az.trans (a0.trans (a1.trans (a2.trans (U.trans (V.trans W)))))))))
       have dm:=ev.mono b5
       refine QF.ld Af H.1 O dm H6 (λe=>by cases e) O λfn dn=>QF.ldo (vs:=[.int .i64 t.Id,.int .i64 t.From,aj]) Af H O mh O O ND O O (QF.mv O O (QF.mv O O (AI Af H O (mt mh) O AL O (AG ?_))))
       have dp:=bj.mono' W
       have a4:=e5.trans (am.trans (af.trans (an.trans (ax.trans (bc.trans (az.trans (a0.trans (a1.trans (a2.trans (U.trans (V.trans W)))))))))))
       have dq:=aw.mono' a4
       have dr:=ak.mono' a4
       obtain⟨fo,b6,E⟩:=bd E
       refine LF.call O O O ZN O (Mt H dl dn (El.mk (x:=t) di dj dp) dq dr bg b6) λfp fq fr bk p=>?_
       obtain⟨bl,bm,bn,bo,bp,bq,rfl,ds,dt,du,dv,dw,dx,b7⟩:=p
       refine LF.nil (kp [58,47,46,18,17,15,14,9,7,4,5,48] O) (WF.block ?_)
       have b8:=b7.sel [1,1,1,2,0,0] 0 O
       obtain⟨m,b9,E⟩:=bd E
       refine U2 (Ds:=Ds116) 2 (λ(ss:Int×Int)=>[Pu (AB ss.1∧AB ss.2),Bx ab 3 [.int .i64 ss.1],Bx D 3 [.int .i64 ss.2],Bx C 114 [.string b.Name,.int .i64 b.Place,.int .i64 b.Flood,.int .i64 b.Lead,.int .i64 b.People,.int .i64 b.Watch,.int .i64 b.Quorum]]) (ag,Q) (PQ AF) (λxx ss=>D7 N b xx.1 xx.2 ss.1 ss.2) m (λvs=>[(21,vs.getD 0 undef),(22,vs.getD 1 undef),(18,.pointer (some ⟨ab,0,none⟩)),(17,.pointer (some ⟨D,0,none⟩)),(15,.pointer (some ⟨C,0,none⟩))]) O Xp (by kernel_rfl) (L5 b8 ⟨bg,bh⟩) (λk=>PQ.len k) (λk e=>PQ.mono k e) ?_ ?_ ?_ ?_ ?_
       ·
        intro yv Y S1 h1 L1 e1 yc fg
        have dy:=ds.mono e1
        have dz:=dt.mono e1
        have d0:=du.mono e1
        have d1:=dv.mono e1
        have d2:=dw.mono e1
        have d3:=dx.mono e1
        rw[show ((#[yv]:Array Value)++ #[bl,bm,bn,bo,bp,bq])= #[yv,bl,bm,bn,bo,bp,bq] from Zo _ _]
        exact(L4 yc (Bc.refl _ _) fg dy dz d0 d1 d2 d3 b9).mono λ_ _ _ _ p=>p.2
       ·
        intro vs B h1 hl
        match vs,hl with
        |[v0,v1],_=>
         refine WF.seq ?_
         refine WF.rp (.inl O) ?_
         refine QF.as_ O O ?_
         refine AA (kp [21,59,60,18,17,15] O) ?_
         refine WF.rp (.inl O) ?_
         refine QF.as_ O O ?_
         refine AA (kp [22,21,59,60,18,17,15] O) ?_
         refine WF.nil (λaa ww hf hw=>?_)
         exact⟨hf.sub (kp [21,22,18,17,15] O),hw⟩
       ·
        rintro⟨aq,ar⟩ ⟨a5,a6⟩ out vs br bt L187 B ca fs cb cc
        have E:D7 N b aq ar a5 a6=some out:=ca
        rw[D7] at E
        obtain⟨d4,rfl,au,av⟩:=cb
        have au:AB aq:=au
        have av:Sl _ _ _ d4 ar:=av
        have o:St br (Pu (AB a5∧AB a6)::Bx ab 3 [.int .i64 a5]::Bx D 3 [.int .i64 a6]::Bx C 114 [.string b.Name,.int .i64 b.Place,.int .i64 b.Flood,.int .i64 b.Lead,.int .i64 b.People,.int .i64 b.Watch,.int .i64 b.Quorum]::L187) bt:=cc
        obtain⟨⟨d5,d6⟩,o⟩:=QR o
        refine WF.block (WF.seq (WF.rp (.inr ⟨mo,by kernel_rfl⟩) (QF.fao O Lx O (AI Af o O (mt (mt mh)) O AL O (QF.geq O O O (QF.mv O O (QF.cutv 6 70 (.bool ((decide (0≤b.Place))&&(decide (b.Place<(↑ar.length:Int))))) ?_ ?_)))))))
        ·
         cases ft:(decide (0≤b.Place))
         ·exact AK O O
         ·exact QF.gy O O O (QF.fao O Lx O (QF.gy O O O (AI Af o O (mt (mt mh)) O AL O (QF.gy O O O (QF.mv O O (QF.gy O O O (QF.len O av FM O λfu=>QF.gy O O O (QF.lss O O O (QF.pick O O O (AH O))))))))))
        refine QF.mv O O ?_
        obtain⟨d7,u,E⟩:=bd E
        refine QF.cutv 10 81 (.bool d7) ?_ ?_
        ·
         cases bu:((decide (0≤b.Place))&&(decide (b.Place<(↑ar.length:Int))))
         ·
          have u:=A3 bu u
          cases u
          exact AK O O
         ·
          have u:=A0 bu u
          refine QF.gy O O O (QF.mv O O (QF.gy O O O (QF.fao O Lx O (QF.gy O O O (AI Af o O (mt (mt mh)) O AL O (QF.gy O O O ?_))))))
          obtain⟨fv,cd,u⟩:=bd u
          refine QF.ixe O O av FM cd O λfw d8=>QF.gy O O O (QF.fa O d8 AD.f_Hi Cn O λfx d9=>QF.gy O O O (QF.ldi Af o.1 O d9 AL O λfy=>QF.gy O O O (QF.fao O P9 O (QF.gy O O O (AI Af o O (mt (mt mh)) O AL O (QF.gy O O O (QF.gtr O O O (QF.pick O O O ?_))))))))
          cases u
          exact AH O
        refine AA (kp [81,21,18,17] O) (WF.if_ O (λa7=>?_) (λa7=>?_))
        ·
         have E:=A0 a7 E
         refine WF.seq (WF.rl (LF.q 2 (QF.mv O O (QF.mv O O (AG (Ad (vs:=[.int .i64 aq]) O O O O AL O o (.tail .head) O λfz ce ea=>Ad (vs:=[.int .i64 aq]) O O O O AL O ce .head O λf0 cf eb=>LF.nil JH (WF.exit O (λaa ww hf hw=>?_))))))))
         cases E
         exact⟨O,_,_,hw,(ea.trans eb),(L5 cf ⟨au,au⟩)⟩
        ·
         have E:=A3 a7 E
         refine WF.skip (Ap (WF.nil (λaa ww hf hw=>?_)))
         cases E
         exact⟨O,_,_,hw,(Bc.refl br bt),(L5 o ⟨d5,d6⟩)⟩
       ·
        intro ec ed ee D226 ef I
        have E:=A0 ec E
        have I:St ed (Pu (AB m.2.1∧AB m.2.2)::Bx ab 3 [.int .i64 m.2.1]::Bx D 3 [.int .i64 m.2.2]::Bx C 114 [.string b.Name,.int .i64 b.Place,.int .i64 b.Flood,.int .i64 b.Lead,.int .i64 b.People,.int .i64 b.Watch,.int .i64 b.Quorum]::QX (D226::Ds116)::Bx bi 123 [.int .i64 t.Id,.int .i64 t.From,aj]::Bx K 64 [.int .i64 0,.bool false]::L) ee:=I
        obtain⟨⟨eg,eh⟩,I⟩:=QR I
        refine Ap (WF.nil (λaa ww hf hw=>?_))
        have cg:=I.sel [0,0,0,2,0] 1 O
        have ch:=V.trans (W.trans (bk.trans ef))
        exact⟨m.2.1,m.2.2,(D226::Ds116),_,_,hf.sub (kp [47,46,18,17,15,14,9,7,4,5,48] O),hw,cg,ch,eg,eh,E⟩
       ·
        intro ei ej ek D236 el J
        have E:=A3 ei E
        have J:St ej (Pu (AB m.2.1∧AB m.2.2)::Bx ab 3 [.int .i64 m.2.1]::Bx D 3 [.int .i64 m.2.2]::Bx C 114 [.string b.Name,.int .i64 b.Place,.int .i64 b.Flood,.int .i64 b.Lead,.int .i64 b.People,.int .i64 b.Watch,.int .i64 b.Quorum]::QX (D236::Ds116)::Bx bi 123 [.int .i64 t.Id,.int .i64 t.From,aj]::Bx K 64 [.int .i64 0,.bool false]::L) ek:=J
        obtain⟨⟨em,en⟩,J⟩:=QR J
        refine Hu O (WF.nil (λaa ww hf hw=>?_))
        have ci:=J.sel [0,0,0,2,0] 1 O
        have cj:=V.trans (W.trans (bk.trans el))
        exact⟨m.2.1,m.2.2,(D236::Ds116),_,_,hf.sub (kp [47,46,18,17,15,14,9,7,4,5,48] O),hw,ci,cj,em,en,E⟩
      ·
       rintro aa ww ⟨ah,ai,Ds126,f1,f2,hf,hw,ck,eo,ep,eq,E⟩
       refine WF.run ?_ hf hw
       clear hf hw ww aa
       rw[Fv] at E
       refine WF.rp (.inl O) (QF.addw O O O (QF.mv O O (AA (kp [48,47,46,18,17,15,14,9,7,4,5] O) (WF.nil (λaa ww hf hw=>?_)))))
       exact⟨(Aw (G+1)),ah,ai,Ds126,_,_,hf.sub (kp [47,46,18,17,15,14,9,7,4,5,48] O),hw,ck,(U.trans eo),(BA _),ep,eq,E⟩
     ·
      have E:=A3 a3 E
      refine WF.exit O (λaa ww hf hw=>?_)
      have cl:=ap.sel [1,2,2] 2 O
      exact⟨Q,Ds116,_,_,hf.sub (kp [17,14] O),hw,cl,U,bh,E⟩
   ·
    rintro aa ww ⟨F,Ds102,f3,f4,hf,hw,a8,er,es,E⟩
    refine WF.run ?_ hf hw
    clear hf hw ww aa
    rw[Cz] at E
    refine WF.seq (WF.rl (LF.q 2 (AI Af a8 O mh O AL O (QF.bld (cs:=[.int .i64 F,.bool false]) LW O O O (AG (Ad (vs:=[.int .i64 F,.bool false]) O O O O MW O a8 (.tail .head) O λf5 cm et=>LF.nil (kp [14] O) (WF.ret (λaa ww hf hw=>?_))))))))
    have cn:=cm.sel [2,1] 1 O
    have co:=e5.trans (am.trans (af.trans (an.trans (ax.trans (bc.trans (az.trans (a0.trans (a1.trans (a2.trans (er.trans et))))))))))
    refine VV (vs:=[.agg #[.int .i64 F,.bool false]]) hf O hw cn O co λw9 f6 bx a9 f7=>?_
    have cp:=a9.drop .head
    cases E
    exact⟨(Gk (LD hf bx a9 O mh MW O) HC),⟨O,es,cp⟩⟩
end Go.Proofs.YtibidnaedddfdaaGreat
