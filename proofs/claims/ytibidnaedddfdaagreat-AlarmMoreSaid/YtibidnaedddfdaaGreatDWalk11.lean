import Derived.Test.YtibidnaedddfdaaGreatDWalk10
namespace Go.Proofs.YtibidnaedddfdaaGreat
set_option linter.all false
open Go.RowKit
open Go.Proofs.Tryz
set_option maxRecDepth 10000
set_option maxHeartbeats 2000000
variable {N:Nat}{S:Nat→Prop}{L:List HP}{h:BB}
def P7 (hs:St S L h) {a6:Value}{c:AU}(cq:Rd S h Ch a6 c) {a7:Value}{d:Cf}(cr:Rd S h EZ a7 d) {am:Value}{bg:CW}(b7:Rd S h FB am bg) {A:Value}{bb:(List Bool)}(bh:Sl S h B7.bool A bb) {C:Value}{bc:(List AH)}(bi:Sl S h AM C bc) {r:Cf×(List AH)×(List AH)}(E:H4 N c d bg bb bc=some r):
 Ct prog 12 #[a6,a7,am,A,C] S h (λv S' h'=>∃fb fc fd:Value,v= .tuple #[fb,fc,fd]∧Rd S' h' EZ fb r.1∧St S' (OS AM 51 fc r.2.1::OS AM 51 fd r.2.2::L) h'):=by
 refine BO (l:=[a6,a7,am,A,C]) 67 func12 O ntmps12 O λB=>?_
 rw[H4] at E
 refine WF.sl (BM O cq (λe=>by cases e) O hs λq1 S2 h3 hl e5 k6=>?_)
 obtain⟨kv,fe,hm,rfl,r9,hn,ho,hp⟩:=EZ.ex (cr.mono e5)
 refine OL O O O hl λhq kw ff b0=>BM O (b7.mono (e5.trans b0)) (λe=>by cases e) O ff λfg ct kx fh b8 ht=>CX VB O fh λb1 ky bk b2=>A5 2 (A4 O (A4 O (A6 (AS (kp [10,7,6,5,3,4] O) (WF.sl (A5 2 (AF MV O (AT BX bk O (mt mh) O IK O (A6 ?_)))))))))
 have c3:=b0.trans (b8.trans b2)
 obtain⟨ak,fi,E⟩:=bd E
 refine Ea O O O eM O bk (Gk (St.all _) ((hn.mono' c3).mono (λb hb=>bk.1 b hb) (λ_ _=>rfl)) fi) λkz k0 k1 h6 b3 hu p=>?_
 have fj:=p
 have b9:=bk.join hu fj ⟨OS.flat (λ{_ _ _ _ _ _} k=>k),trivial⟩
 simp only[mI,kF] at b9
 refine A5 1 (AF MV O (A6 ?_))
 obtain⟨M,G,rfl,k2⟩:=b9.oslen mh
 refine Jg (vs:=[(.slice M ak.length G)]) (cs':=[vI d.K,(.slice M ak.length G),fe,hm]) O O O O IK O b9 (.tail (.tail .head)) O O λk3 bl b4=>AS (kp [10,7,6,5,3,4] O) (WF.sl (A5 2 (AF IU O (AT BX bl O (mt (mt mh)) O LK O (A6 ?_)))))
 have c4:=c3.trans (b3.trans b4)
 obtain⟨be,fk,E⟩:=bd E
 refine Ea O O O eL O bl (GZ (St.all _) ((hp.mono' c4).mono (λb hb=>bl.1 b hb) (λ_ _=>rfl)) fk) λk4 k5 k7 h7 b5 hv p=>?_
 have fl:=p
 have ca:=bl.join hv fl ⟨OS.flat (λ{_ _ _ _ _ _} k=>k),trivial⟩
 simp only[mI,kF] at ca
 refine A5 1 (AF IU O (A6 ?_))
 obtain⟨an,I,rfl,k8⟩:=ca.oslen mh
 refine Jg (vs:=[(.slice an be.length I)]) (cs':=[vI d.K,(.slice M ak.length G),fe,(.slice an be.length I)]) O O O O LK O ca (.tail (.tail (.tail .head))) O O λfm g b6=>AS (kp [10,7,6,5,3,4] O) (AC ?_)
 have c5:=c4.trans (b5.trans b6)
 have fn:=ho.mono' c5
 obtain⟨bf,ao,rfl,k9⟩:=(fn).len
 obtain⟨fo,E⟩:=TW E
 refine UV (m:=[(10,vP b1 0),(7,fg),(6,vP hq 0),(5,q1),(3,A),(4,C)]) [8] [] [5,7] ⟨[(6,[24,25,29])],λi l=>match i,l with|6,[some hx,some hy,some hz]=>some (.agg (hx.cells.toList++hy.cells.toList++[hz]).toArray)|_,_=>none⟩ (by kernel_rfl) (by kernel_rfl) (λi v hh=>match i with|0=>Rd ct hh Ch v c|1=>v= .agg #[vI d.K,(.slice M ak.length G),(.slice bf d.S.length ao),(.slice an be.length I)]∧AD d.K|2=>Pt ct hh (B7.sl Cb) v c.D|3=>Sl ct hh Cb v c.D|4=>v=vI (↑c.D.length:Int)∧AD (↑c.D.length:Int)|5=>Yd ct fm AM 51 (List.replicate ((↑c.D.length:Int):Int).toNat ((⟨0,0⟩:AH):AH)) v hh|6=>True|7=>Qj fm 106 [.string ByteArray.empty,vN,vI 0,vN,vN,vN,vN,vN,vN,vN,vI 0,vI 0,vN,vN,vN,vN] v hh|_=>False) [[],[],[],[(2,26)],[(3,27)],[(4,28)],[(0,24),(1,25),(5,29)],[],[]] [(0,24),(1,25),(5,29),(6,30),(7,13)] mo (by kernel_rfl) [10,7,6,5,3,4] O (by kernel_rfl) (by kernel_rfl) (by kernel_rfl) O (kp [10,7,6,5,3,4] O) (λi v h1 h2 o1 o2 y=>?_) (by kernel_rfl) (W9 O (Ma (T:=106) O RP)) ?_ ?_ ?_
 ·match i,y with
   |0,y=>exact Rd.mono y (o2.ext λb hb=>iY (g.1 b hb) o1.siz)
   |1,y|4,y|6,y=>exact y
   |2,y=>exact N0.mono y (o2.ext λb hb=>iY (g.1 b hb) o1.siz)
   |3,y=>exact Sl.mono' y (o2.ext λb hb=>iY (g.1 b hb) o1.siz)
   |5,y=>exact y.mono g.1 o2
   |7,y=>exact y.mono o2
   |_+8,y=>exact y.elim
 ·exact trivial
 ·refine By.cons O O O (λ_ _ o=>A5 1 (BP BX (o.st g).1 O (k6.mono (b0.trans (b8.trans (b2.trans (b3.trans (b4.trans (b5.trans (b6.trans (o.ext g.1))))))))) Hc (λe=>by cases e) O λh8 fp=>BF fp)) (By.cons O O O (λ_ _ o=>A5 1 (Cw (vs:=[vI d.K,(.slice M ak.length G),(.slice bf d.S.length ao),(.slice an be.length I)]) BX (o.st g) O (mt (mt (mt mh))) O O Jj O O (BF ⟨O,r9⟩))) (By.cons O O O (λ_ _ o=>A5 1 (AV O (k6.mono (b0.trans (b8.trans (b2.trans (b3.trans (b4.trans (b5.trans (b6.trans (o.ext g.1))))))))) CC En O λh9 fq=>BF fq)) (By.cons O O O (λ_ _ o fr cb=>by have cb:Pt _ _ (B7.sl Cb) fr c.D:=cb;exact A5 1 (BR BX (o.st g).1 O cb HD O λia fs=>BF fs)) (By.cons O O O (λ_ _ _ ft cc=>by have cc:Sl _ _ Cb ft c.D:=cc;exact A5 1 (BJ O cc Ga O λfu=>BF ⟨O,(LW fu)⟩)) (XG O O O (λ_ _ o _ fv=>by obtain⟨rfl,ib⟩:=fv;exact bN (r:=AM) (zx:=(⟨0,0⟩:AH)) SW O ⟨O,by unfold AH.ok AD;simp [IntKind.has,IntKind.min,IntKind.max,IntKind.bits,IntKind.signed]⟩ O O fo O O o g.1 λv' h' o' r' f'=>GB o' ⟨r',f'⟩) ?_)))))
  refine By.z [24,25,29] O O O (by kernel_rfl) ?_ ?_
  ·intro mq hh o
   intro fw cd ic fx ie c6
   have h0:=o.st g
   have cd:Rd _ _ Ch fw c:=cd
   obtain⟨rfl,ig⟩:=fx
   obtain⟨fy,cu,rfl,c6⟩:=c6
   refine A5 1 ?_
   obtain⟨ih,ii,ij,ik,il,im,io,ip,rfl,ir,fz,it,f0,f1,f2,f3,f4,f5,f6,iu⟩:=Ch.ex cd
   obtain⟨ec,cv,rfl,iv⟩:=(fz).len
   obtain⟨ed,cw,rfl,iw⟩:=(f0).len
   obtain⟨ee,cx,rfl,iy⟩:=(f1).len
   obtain⟨ef,cy,rfl,iz⟩:=(f2).len
   obtain⟨eg,cz,rfl,i0⟩:=(f3).len
   obtain⟨eh,c0,rfl,i1⟩:=(f4).len
   obtain⟨ei,c1,rfl,i2⟩:=(f5).len
   obtain⟨ej,c2,rfl,i3⟩:=(f6).len
   exact DB (cs:=[.string c.J,(.slice ec c.Ar.length cv),vI c.W,(.slice ed c.D.length cw),(.slice ee c.F.length cx),(.slice ef c.Ac.length cy),(.slice eg c.Am.length cz),(.slice eh c.An.length c0),(.slice ei c.Aq.length c1),(.slice ej c.Ap.length c2),vI c.Z,vI d.K,(.slice M ak.length G),(.slice bf d.S.length ao),(.slice an be.length I),(.slice (some ⟨fy,0,none⟩) (List.replicate ((↑c.D.length:Int):Int).toNat ((⟨0,0⟩:AH):AH)).length cu)]) ZU O O O (BF ⟨trivial,O,O⟩)
  exact By.al O ZJ O O (By.skip (by kernel_rfl) (trivial))
 intro i4 a2 f7 ce i5 f8 i6 f9 ga i7 i8 gb ek el
 obtain⟨c7,bm,rfl,gc,ge,gf⟩:=f9
 obtain⟨ah,rfl,gg,gh,gi⟩:=gb
 have em:=(QE.cons (U7 (QE.nil g a2) gc ge gf jL) gg gh gi (dN (ek.of_ (s:=13) (s':=29) (by kernel_rfl) O O O O) jL)).st
 have ce:Rd _ _ Ch f7 c:=ce
 obtain⟨rfl,bn⟩:=f8
 obtain⟨i9,ja,jb,jc,jd,je,jf,jg,rfl,bo,c8,bp,c9,da,db,dc,dd,de,df,bq⟩:=Ch.ex ce
 obtain⟨ap,Q,rfl,jh⟩:=(c8).len
 obtain⟨aq,U,rfl,ji⟩:=(c9).len
 obtain⟨ar,V,rfl,jj⟩:=(da).len
 obtain⟨au,X,rfl,jk⟩:=(db).len
 obtain⟨av,Y,rfl,jl⟩:=(dc).len
 obtain⟨aw,ab,rfl,jm⟩:=(dd).len
 obtain⟨ax,ac,rfl,jn⟩:=(de).len
 obtain⟨ay,ad,rfl,jo⟩:=(df).len
 obtain rfl:ga=Value.agg #[.string c.J,(.slice ap c.Ar.length Q),vI c.W,(.slice aq c.D.length U),(.slice ar c.F.length V),(.slice au c.Ac.length X),(.slice av c.Am.length Y),(.slice aw c.An.length ab),(.slice ax c.Aq.length ac),(.slice ay c.Ap.length ad),vI c.Z,vI d.K,(.slice M ak.length G),(.slice bf d.S.length ao),(.slice an be.length I),(.slice (some ⟨c7,0,none⟩) (List.replicate ((↑c.D.length:Int):Int).toNat ((⟨0,0⟩:AH):AH)).length bm)]:=(jH (el _ kI 30 _ (by kernel_rfl) O O)).symm
 refine BU (vs:=[.string c.J,(.slice ap c.Ar.length Q),vI c.W,(.slice aq c.D.length U),(.slice ar c.F.length V),(.slice au c.Ac.length X),(.slice av c.Am.length Y),(.slice aw c.An.length ab),(.slice ax c.Aq.length ac),(.slice ay c.Ap.length ad),vI c.Z,vI d.K,(.slice M ak.length G),(.slice bf d.S.length ao),(.slice an be.length I),(.slice (some ⟨c7,0,none⟩) (List.replicate ((↑c.D.length:Int):Int).toNat ((⟨0,0⟩:AH):AH)).length bm)]) O O O O ZO O em .head O λjp cf j=>AS (kp [13,10,7,5,3,4] O) (WF.sl (A5 2 ?_))
 have dg:=ht.mono (b2.trans (b3.trans (b4.trans (b5.trans (b6.trans ((a2.ext g.1).trans j))))))
 refine BP BX cf.1 O dg Rn (λe=>by cases e) O λjq gj=>AA O (A6 ?_)
 have en:=cf.sel [0,2,1,0,0,0] 0 O
 have dh:=c8.mono' j
 have di:=c9.mono' j
 have dj:=da.mono' j
 have dk:=db.mono' j
 have dl:=dc.mono' j
 have dm:=dd.mono' j
 have dn:=de.mono' j
 have dp:=df.mono' j
 have dq:=fn.mono' ((a2.ext g.1).trans j)
 have cg:=e5.trans (b0.trans (b8.trans (b2.trans (b3.trans (b4.trans (b5.trans (b6.trans ((a2.ext g.1).trans j))))))))
 obtain⟨gk,eo,E⟩:=bd E
 refine GO O O O eK O (Mg (p0_w:=(⟨c,(⟨d.K,ak,d.S,be⟩:Cf),(List.replicate ((↑c.D.length:Int):Int).toNat ((⟨0,0⟩:AH):AH))⟩:BS)) en bo dh bp di dj dk dl dm dn dp bq bn dq gj (bh.mono' cg) eo) λjr js jt t p=>?_
 obtain⟨ju,rfl,ep⟩:=p
 refine AS (kp [13,10,7,5,4] O) (WF.sl (A5 1 (AA O (A6 ?_))))
 have dr:=dh.mono' t
 have ds:=di.mono' t
 have dt:=dj.mono' t
 have du:=dk.mono' t
 have dv:=dl.mono' t
 have dw:=dm.mono' t
 have dx:=dn.mono' t
 have dy:=dp.mono' t
 obtain⟨u,eq,E⟩:=bd E
 refine GO O O O eJ O (K1 (p0_w:=(⟨c,(⟨d.K,ak,d.S,gk⟩:Cf),(List.replicate ((↑c.D.length:Int):Int).toNat ((⟨0,0⟩:AH):AH))⟩:BS)) ep bo dr bp ds dt du dv dw dx dy bq bn (dq.mono' t) (bi.mono' (cg.trans t)) eq) λjv ch jw br p=>?_
 obtain⟨gl,ae,az,rfl,ci⟩:=p
 refine AS (kp [13,10,7,5] O) (WF.sl (A5 3 ?_))
 have dz:=k6.mono (c5.trans ((a2.ext g.1).trans (j.trans (t.trans br))))
 refine AV O dz CC En O λjx gm=>BR BX ci.1 O gm HD O λjy gn=>BJ O gn Ga O λjz=>A6 ?_
 obtain⟨er,E⟩:=TW E
 refine Pr (r:=AM) (zx:=(⟨0,0⟩:AH)) SW O ⟨O,by unfold AH.ok AD;simp [IntKind.has,IntKind.min,IntKind.max,IntKind.bits,IntKind.signed]⟩ O O er O O ci λa0 cj ck bs=>A5 1 (A4 O (A6 (AS (kp [14,13,10,7,5] O) (AC (AE (AV O (dz.mono bs) CC En O λj0 gp=>BR BX ck.1 O gp HD O λj1 gq=>BJ O gq Ga O λj2=>AA O (AL (kp [43,42,14,13,10,7] O) (BG (λa w=>∃(cl:List AH) (ai:Value) (bt:List AH) (aj:Value) (bu:List B9),IV B ch cj (67,[]) a w [(14,a0),(13,vP ah 0),(10,vP b1 0)] (OS AM 51 ai bt::OS Ce 93 aj bu::OS AM 51 a0 cl::Bx ah 106 [.string c.J,(.slice ap c.Ar.length Q),vI c.W,(.slice aq c.D.length U),(.slice ar c.F.length V),(.slice au c.Ac.length X),(.slice av c.Am.length Y),(.slice aw c.An.length ab),(.slice ax c.Aq.length ac),(.slice ay c.Ap.length ad),vI c.Z,vI d.K,ai,aj,ae,az]::OS BK 97 ae u.2.1::OS AM 51 az u.2.2::Bx b1 36 [vI 0,vN,vN,vN]::L) λ_ _=>Ff N d u cl bt bu=some r) ?_ ?_))))))))
 ·refine Bt (λn1=>λa w=>∃(a1:Int) (a3:List AH) (bv:Value) (a4:List AH) (bw:Value) (a5:List B9),IV B ch cj (67,[]) a w [(42,vI (↑c.D.length:Int)),(14,a0),(13,vP ah 0),(10,vP b1 0),(7,fg),(43,vI a1)] (OS AM 51 bv a4::OS Ce 93 bw a5::OS AM 51 a0 a3::Bx ah 106 [.string c.J,(.slice ap c.Ar.length Q),vI c.W,(.slice aq c.D.length U),(.slice ar c.F.length V),(.slice au c.Ac.length X),(.slice av c.Am.length Y),(.slice aw c.An.length ab),(.slice ax c.Aq.length ac),(.slice ay c.Ap.length ad),vI c.Z,vI d.K,bv,bw,ae,az]::OS BK 97 ae u.2.1::OS AM 51 az u.2.2::Bx b1 36 [vI 0,vN,vN,vN]::L) λ_ _=>AD a1∧Fe N c d bg u (Ff N d u) n1 a1 a3 a4 a5=some r) N ?_ ?_ ?_
  ·intro aa ww hf hw
   have es:=ck.sel [2,2,0,0,0,0,0] 1 O
   exact⟨0,(List.replicate ((↑c.D.length:Int):Int).toNat ((⟨0,0⟩:AH):AH)),(.slice M ak.length G),ak,gl,u.1,_,_,hf.sub (kp [42,14,13,10,7,43] O),hw,es,(Cm.refl ch cj),(iq (n:=0) O),E⟩
  ·rintro aa ww ⟨_,_,_,_,_,_,_,_,_,_,_,_,_,E⟩
   rw[Fe] at E;cases E
  rintro n1 aa ww ⟨a1,a3,bv,a4,bw,a5,j3,j4,hf,hw,bj,bx,d0,E⟩
  refine A8 ?_ hf hw
  clear hf hw ww aa
  rw[Fe] at E
  refine AE (BE O (AL (kp [44,42,14,13,10,7,43] O) (AC (AW O E (λgr E=>?_) (λgr E=>?_)))))
  ·refine AQ (AC (BW (AE (AA O (AJ O (kp [15,42,14,13,10,7,43] O) (Gf (A5 6 (AA O (AA O (AA O (AA O (AV O (dg.mono (t.trans (br.trans (bs.trans bx)))) MH UF O λj5 gs=>BR BX bj.1 O gs Yr O λj6 gu=>A6 ?_))))))))))))
   have et:=bj.sel [3,0,0,1,1,0,0] 0 O
   have H:=br.trans (bs.trans bx)
   have d1:=dr.mono' H
   have d2:=ds.mono' H
   have d3:=dt.mono' H
   have d4:=du.mono' H
   have d5:=dv.mono' H
   have d6:=dw.mono' H
   have d7:=dx.mono' H
   have d8:=dy.mono' H
   obtain⟨j7,eu,E⟩:=bd E
   refine GO O O O eH O (Mi (p0_w:=(⟨c,(⟨d.K,a4,a5,u.2.1⟩:Cf),u.2.2⟩:BS)) et bo d1 bp d2 d3 d4 d5 d6 d7 d8 bq bn d0 gu eu) λj8 j9 ka af p=>?_
   have ev:=p
   obtain⟨kb,ew,ag,gv⟩:=ev.pubs .head
   obtain⟨bz,ey,E⟩:=bd E
   refine GO O O O eI O (Mh (p0_w:=(⟨c,(⟨d.K,a4,a5,u.2.1⟩:Cf),u.2.2⟩:BS)) ew bo (d1.mono' (af.trans ag)) bp (d2.mono' (af.trans ag)) (d3.mono' (af.trans ag)) (d4.mono' (af.trans ag)) (d5.mono' (af.trans ag)) (d6.mono' (af.trans ag)) (d7.mono' (af.trans ag)) (d8.mono' (af.trans ag)) bq bn d0 gv ey) λkc kd ke gw p=>?_
   obtain⟨gx,gy,rfl,⟨gz,g0⟩,cm⟩:=p
   refine A5 1 ?_
   obtain⟨kf,ez,E⟩:=bd E
   refine DN cm (mt (mt (mt (mt (mt mh))))) O O Gs ez O λkg e0=>A6 ?_
   obtain⟨g1,e1,E⟩:=bd E
   refine IB (r:=AM) (l:=a3) (i:=a1) (x:=g1) O O (AM.mk (x:=bz.1) ⟨gz,g0⟩) e0 e1 N3.id BY (λe=>by cases e) cm (.tail (.tail (.tail (.tail (.tail .head))))) λkh e2 g2=>AS (kp [42,14,13,10,7,43] O) (B0 (CL (.inl O) (BD O (AA O (AL (kp [43,42,14,13,10,7] O) (WF.nil (λaa ww hf hw=>?_)))))))
   have e3:=e2.sel [1,1,3,0,0,0,0] 0 O
   exact⟨(B8 (a1+1)),(upd a3 a1 bz.1),gx,bz.2.1,gy,bz.2.2,_,_,hf.sub (kp [42,14,13,10,7,43] O),hw,e3,(bx.trans (af.trans (ag.trans (gw.trans g2)))),(CJ _),E⟩
  refine WF.exit O (λaa ww hf hw=>?_)
  exact⟨a3,bv,a4,bw,a5,_,_,hf.sub (kp [14,13,10] O),hw,bj,bx,E⟩
 rintro aa ww ⟨cl,ai,bt,aj,bu,ki,kj,hf,hw,cn,g3,E⟩
 refine A8 ?_ hf hw
 clear hf hw ww aa
 rw[Ff] at E
 refine WF.sl (A5 6 (AF Fd O (AF KT O (AT BX cn O (mt (mt (mt mh))) O AZ O (BD O (AF Fd O (AF KT O (A6 (Jg (vs:=[vI (B8 (d.K+1))]) (cs':=[.string c.J,(.slice ap c.Ar.length Q),vI c.W,(.slice aq c.D.length U),(.slice ar c.F.length V),(.slice au c.Ac.length X),(.slice av c.Am.length Y),(.slice aw c.An.length ab),(.slice ax c.Aq.length ac),(.slice ay c.Ap.length ad),vI c.Z,vI (B8 (d.K+1)),ai,aj,ae,az]) O O O O AZ O cn (.tail (.tail (.tail .head))) O O λkk a8 g4=>AS (kp [14,13,10] O) (AC (UW (m:=[(14,a0),(13,vP ah 0),(10,vP b1 0)]) 5 [6,7] [4] [2,3] [] (λi v hh=>match i with|0=>v=vP ah 11|1=>v= .agg #[vI (B8 (d.K+1)),ai,aj,ae]∧AD (B8 (d.K+1))|2=>v=vP ah 15|3=>v=az|4=>v=a0|_=>False) [[],[(0,62)],[],[(2,64)],[],[],[],[]] [(1,63),(4,66)] mo (by kernel_rfl) [14,13,10] O (by kernel_rfl) (by kernel_rfl) (by kernel_rfl) O O (kp [14,13,10] O) (λi v h1 h2 o1 o2 y=>?_) (by kernel_rfl) RP ?_ ?_ ?_)))))))))))
 ·match i,y with
   |0,y|1,y|2,y|3,y|4,y=>exact y
   |_+5,y=>exact y.elim
 ·refine Ku.cons [] (by kernel_rfl) O O (by kernel_rfl) ?_ ?_
  ·intro mq hh o
   intro a hf
   exact⟨a0,MJ hf O,O⟩
  exact trivial
 ·exact By.cons O O O (λ_ _ _=>A5 1 (AF Fd O (BF O))) (By.cons O O O (λ_ _ o _ g5=>by cases g5;exact A5 1 (Cw (vs:=[vI (B8 (d.K+1)),ai,aj,ae]) BX (o.st a8) O (mt (mt (mt mh))) O O Jj O O (BF ⟨O,(CJ _)⟩))) (By.cons O O O (λ_ _ _=>A5 1 (AF HJ O (BF O))) (By.cons O O O (λ_ _ o _ g6=>by cases g6;exact A5 1 (AT BX (o.st a8) O (mt (mt (mt mh))) O IK O (BF O))) (By.cons O O O (λ_ _ _=>A5 1 (AA O (BF O))) (By.skip (by kernel_rfl) (By.skip (by kernel_rfl) (By.skip (by kernel_rfl) (trivial))))))))
 intro h4 kl d9 km g7 kn g8 h5
 have a9:=(QE.nil a8 d9).st
 obtain⟨rfl,g9⟩:=g7
 cases g8
 refine IR (vs:=[vI (B8 (d.K+1)),ai,aj,ae]) (cs':=[vI (B8 (d.K+1)),ai,aj,ae]) O O O (AG O (AG (a9.osone mh) (AG (a9.osone (mt mh)) (AG (a9.osone (mt (mt (mt (mt mh))))) GJ)))) Jj O a9 (.tail (.tail (.tail (.tail (.tail (.tail .head)))))) O O λko ba ha=>XQ ⟨λi v hh=>match i with|2=>v=vP ah 15|3=>v=az|_=>False,[[],[],[],[(2,64)],[],[],[],[]],[(3,65)],_,[66,63,14,13,10],O,by kernel_rfl,by kernel_rfl,by kernel_rfl,by kernel_rfl,O,λi hi v y=>?_,λi v h1 h2 o1 o2 y=>?_,?_,?_⟩
 ·rcases iZ.1 hi with rfl|hi
  ·exact y
  rcases iZ.1 hi with rfl|hi
  ·exact y
  cases hi
 ·match i,y with
   |0,y|1,y=>exact y.elim
   |2,y|3,y=>exact y
   |_+4,y=>exact y.elim
 ·refine By.skip (by kernel_rfl) (By.skip (by kernel_rfl) (By.cons O O O ?_ ?_))
  ·intro mq hh o
   have h0:=o.st ba
   exact A5 1 (AF HJ O (BF O))
  exact By.cons O O O (λ_ _ o _ hc=>by cases hc;exact A5 1 (AT BX (o.st ba) O (mt (mt (mt mh))) O IK O (BF O))) (By.skip (by kernel_rfl) (By.skip (by kernel_rfl) (By.skip (by kernel_rfl) (By.skip (by kernel_rfl) (trivial)))))
 intro kq ea kr hd
 have e4:=ea.st ba
 cases hd
 refine A5 1 (A4 O (A6 (A5 1 (A4 O (A6 (AS (kp [12,11,10] O) (WF.ret (λaa ww hf hw=>?_))))))))
 obtain⟨ks,e6,he,hg⟩:=e4.pubs .head
 obtain⟨kt,e7,eb,hj⟩:=e6.pubs .head
 obtain⟨ku,e8,co,hk⟩:=e7.pubs (.tail (.tail .head))
 have cp:=e8.sel [2,0,1] 1 O
 have e9:=cp.drop (.tail (.tail .head))
 cases E
 exact I1 hf O hw (IH (M2 hf hw cp O (mt (mt mh)) Jj O) (IH (LV hf (v:=_) O) (IH (LV hf (v:=_) O) Io))) O (e5.trans (b0.trans (b8.trans (b2.trans (b3.trans (b4.trans (b5.trans (b6.trans ((a2.ext g.1).trans (j.trans (t.trans (br.trans (bs.trans (g3.trans (g4.trans ((d9.ext a8.1).trans (ha.trans ((ea.ext ba.1).trans (he.trans (eb.trans co)))))))))))))))))))) ⟨_,_,_,O,(EZ.mk (x:=(⟨(B8 (d.K+1)),bt,bu,u.2.1⟩:Cf)) g9 (hg.mono' (eb.trans co)) (hj.mono' co) hk),e9⟩
def Nt {σ:Type}{yv:Value}{Y:Bool→σ→HP}{a4:(Int×(List AH))→σ→Option (Bool×σ)}{S0:Nat→Prop}{h0:BB}(yc:YC prog yv Y (Ri AM) a4 S0 h0) (e0:Cm S0 h0 S h) {s:σ}(hs:St S (Y true s::L) h) {au:Value}{an:Cf}(cx:Pt S h EZ au an) {av:Value}{c2_:Int}(cy:Pt S h BQ av c2_) {z:Value}{c3_:(List CW)}(cz:Pt S h (B7.sl FB) z c3_) {A:Value}{C:AU}(a5:Pt S h Ch A C) {G:Value}{aw:(List Bool)}(c0:Pt S h (B7.sl B7.bool) G aw) {H:Value}{ax:Cr}(c1:Pt S h GF H ax) {r:Bool×σ}(E:IX N an c2_ c3_ C aw ax a4 s=some r):
 Ct prog 119 #[yv,au,av,z,A,G,H] S h (λv S' h'=>v= .tuple #[]∧St S' (Y r.1 r.2::L) h'):=by
 refine BO (l:=[yv,au,av,z,A,G,H]) 51 func119 O ntmps119 O λB=>?_
 rw[IX] at E
 refine WF.sl (A5 1 (BP BX hs.1 O cx Jj (λe=>by cases e) O λv1 k2=>A6 (CX VB O hs λb3 h4 fy e6=>?_)))
 obtain⟨c2,c3,c4,rfl,r9,ds,dt,du⟩:=EZ.ex (k2.mono e6)
 refine IR (vs:=[vI an.K,c2,c3,c4]) (cs':=[vI an.K,c2,c3,c4]) O O O (AG O (AG ds.one (AG dt.one (AG du.one GJ)))) Jj O fy .head O O λdv b7 Q=>AS (kp [8,0,2,3,4,5,6] O) (AE (AY BX b7.1 O (cy.mono (e6.trans Q)) AZ O λhm=>AA O (AL (kp [16,15,8,0,3,4,5,6] O) (BW (Bt (λn0=>λa w=>∃(W:Int) (U:Int) (a1:Value) (a6:List AH) (a2:Value) (a7:List B9) (a3:Value) (a8:List BA) (a9:σ),IV B S dv (51,[]) a w [(15,vI c2_),(8,vP b3 0),(0,yv),(3,z),(4,A),(5,G),(6,H),(16,vI W)] (Bx b3 36 [vI U,a1,a2,a3]::Y true a9::L) λS' h'=>AD W∧AD U∧Sl S' h' AM a1 a6∧Sl S' h' Ce a2 a7∧Sl S' h' BK a3 a8∧DF N a4 c2_ c3_ C aw ax n0 W U a6 a7 a8 a9=some r) N ?_ ?_ ?_)))))
 ·intro aa ww Z hw
  exact⟨0,an.K,c2,an.M,c3,an.S,c4,an.F,s,_,_,Z.sub (kp [15,8,0,3,4,5,6,16] O),hw,b7,(Cm.refl S dv),(iq (n:=0) O),r9,(ds.mono' Q),(dt.mono' Q),(du.mono' Q),E⟩
 ·rintro aa ww ⟨_,_,_,_,_,_,_,_,_,_,_,_,_,_,_,_,_,_,_,_,E⟩
  rw[DF] at E;cases E
 rintro n0 aa ww ⟨W,U,a1,a6,a2,a7,a3,a8,a9,dw,hn,Z,hw,b8,ag,f0,dx,f1,f2,f3,E⟩
 refine A8 ?_ Z hw
 clear Z hw ww aa
 rw[DF] at E
 refine AE (BE O (AL (kp [17,15,8,0,3,4,5,6,16] O) (AC (AW O E (λf4 E=>?_) (λf4 E=>?_)))))
 ·refine AQ (AC (BW (AE (AA O (AJ O (kp [9,15,8,0,3,4,5,6,16] O) (WF.sl (A5 1 (DB (cs:=[vN,vN,vN,vN,vN]) cJ O O O (A6 (CX bW O b8 λc5 ho dy ah=>BU (vs:=[vN,vN,vN,vN,vN]) O O O O Rn O dy .head O λdz ao ai=>AS (kp [10,9,15,8,0,3,4,5,6,16] O) (AC (AE (AA O ?_)))))))))))))
  have d0:=cz.mono (e6.trans (Q.trans (ag.trans (ah.trans ai))))
  refine BR BX ao.1 O d0 Yq O λhp f5=>BJ O f5 NQ O λhq=>BE O (AL (kp [23,10,9,15,8,0,3,4,5,6,16] O) (HW (λa w=>∃(ba:Value) (b1:List Int) (bb:Value) (b2:List JG) (bc:Value) (b4:List N2) (be:Value) (b5:List II) (bf:Value) (b6:List KE),IV B dw dz (51,[]) a w [(10,vP c5 0),(9,vI W),(15,vI c2_),(8,vP b3 0),(0,yv),(3,z),(4,A),(5,G),(6,H),(16,vI W)] (Bx c5 42 [ba,bb,bc,be,bf]::Bx b3 36 [vI U,a1,a2,a3]::Y true a9::L) λS' h'=>Sl S' h' BQ ba b1∧Sl S' h' Hv bb b2∧Sl S' h' KB bc b4∧Sl S' h' Hq be b5∧Sl S' h' If bf b6∧Fw N a4 C aw ax W U a6 a7 a8 a9 (DF N a4 c2_ c3_ C aw ax n0) b1 b2 b4 b5 b6=some r) ?_ ?_))
  ·refine AW O E (λf6 E=>?_) (λf6 E=>?_)
   ·refine Gf (A5 4 (BR BX ao.1 O d0 Yq O λht f7=>AA O ?_))
    obtain⟨bg,d1,E⟩:=bd E
    refine B6 O O f7 NQ d1 O λhu f8=>BP BX ao.1 O f8 Rn (λe=>by cases e) O λhv f9=>A6 ?_
    obtain⟨c6,c7,c8,c9,bh,rfl,d2,d3,d4,b9,ca⟩:=FB.ex f9
    refine IR (vs:=[c6,c7,c8,c9,bh]) (cs':=[c6,c7,c8,c9,bh]) O O O (AG d2.one (AG d3.one (AG d4.one (AG b9.one (AG ca.one GJ))))) Rn O ao .head O O λgi da ab=>AS (kp [10,9,15,8,0,3,4,5,6,16] O) (WF.nil (λaa ww Z hw=>?_))
    exact⟨c6,bg.Ai,c7,bg.Ba,c8,bg.Bb,c9,bg.Au,bh,bg.Bn,_,_,Z.sub (kp [10,9,15,8,0,3,4,5,6,16] O),hw,da,ab,(d2.mono' ab),(d3.mono' ab),(d4.mono' ab),(b9.mono' ab),(ca.mono' ab),E⟩
   refine AQ (WF.nil (λaa ww Z hw=>?_))
   exact⟨vN,[],vN,[],vN,[],vN,[],vN,[],_,_,Z.sub (kp [10,9,15,8,0,3,4,5,6,16] O),hw,ao,(Cm.refl dw dz),(.inl ⟨O,O⟩),(.inl ⟨O,O⟩),(.inl ⟨O,O⟩),(.inl ⟨O,O⟩),(.inl ⟨O,O⟩),E⟩
  rintro aa ww ⟨ba,b1,bb,b2,bc,b4,be,b5,bf,b6,g,u,Z,hw,c,I,ga,gb,gc,ge,gf,E⟩
  refine A8 ?_ Z hw
  clear Z hw ww aa
  rw[Fw] at E
  refine AC ?_
  obtain⟨cb,db,E⟩:=bd E
  obtain⟨d,dc,E⟩:=bd E
  refine YP (m:=[(10,vP c5 0),(9,vI W),(15,vI c2_),(8,vP b3 0),(0,yv),(3,z),(4,A),(5,G),(6,H),(16,vI W)]) [17,18,19] [14,15] [16] (λX i v t=>match i with|0=>Rd g t Ch v C|1=>v= .agg #[vI U,a1,a2,a3]∧AD U|2=>v= .agg #[ba,bb,bc,be,bf]|3=>Sl g t B7.bool v aw|4=>Rd g t GF v ax|5=>v=vP b3 0|6=>v=vI U∧AD U|7=>Pt g t (B7.sl Cb) v C.D|8=>Sl g t Cb v C.D|9=>v=vI (↑C.D.length:Int)∧AD (↑C.D.length:Int)|10=>Sl (SX g u t X) t AM v cb|11=>∃w0 w1 w2:Value,v= .tuple #[w0,w1,w2]∧(Rd (SX g u t X) t EZ w0 d.1)∧(Sl (SX g u t X) t AM w1 d.2.1)∧(Sl (SX g u t X) t AM w2 d.2.2)|12=>∃w0 w1 w2:Value,v= .tuple #[w0,w1,w2]∧(Rd (SX g u t X) t EZ w0 d.1)∧(Sl (SX g u t X) t AM w1 d.2.1)∧(Sl (SX g u t X) t AM w2 d.2.2)|13=>Rd (SX g u t X) t EZ v d.1|14=>Sl (SX g u t X) t AM v d.2.1|15=>Sl (SX g u t X) t AM v d.2.2|16=>Qj u 36 [vI 0,vN,vN,vN] v t|_=>False) [[],[],[],[],[],[],[(5,34)],[],[(7,36)],[(8,37)],[(4,33),(6,35),(9,38)],[(0,29),(1,30),(2,31),(3,32),(10,39)],[(11,40)],[(12,28)],[(12,28)],[(12,28)],[],[],[],[]] [(13,41),(14,42),(15,43),(16,11)] mo (by kernel_rfl) [10,9,15,8,0,3,4,5,6,16] O (by kernel_rfl) (by kernel_rfl) (by kernel_rfl) O (kp [10,9,15,8,0,3,4,5,6,16] O) (λi v h1 h2 X X' o1 o2 u1 u2 y=>?_) (by kernel_rfl) (W8 (T:=36) (λ_=>rfl) YK) ?_ ?_ ?_
  ·match i,y with
    |0,y|4,y=>exact(Rd.mono y (o2.ext λb hb=>iY (c.1 b hb) o1.siz))
    |1,y|2,y|5,y|6,y|9,y=>exact y
    |3,y|8,y=>exact(Sl.mono' y (o2.ext λb hb=>iY (c.1 b hb) o1.siz))
    |7,y=>exact(N0.mono y (o2.ext λb hb=>iY (c.1 b hb) o1.siz))
    |10,y|14,y|15,y=>exact(Sl.mono' y (SX.mono c.1 o1 o2 u1 u2))
    |11,y|12,y=>obtain⟨w0,w1,w2,e,k0,k1,k2⟩:=y;exact⟨w0,w1,w2,e,(Rd.mono k0 (SX.mono c.1 o1 o2 u1 u2)),(Sl.mono' k1 (SX.mono c.1 o1 o2 u1 u2)),(Sl.mono' k2 (SX.mono c.1 o1 o2 u1 u2))⟩
    |13,y=>exact(Rd.mono y (SX.mono c.1 o1 o2 u1 u2))
    |16,y=>exact y.mono o2
    |_+17,y=>exact y.elim
  ·refine Mv.cons [(12,28)] (by kernel_rfl) O O (by kernel_rfl) ?_ ?_
   ·intro X mq t o
    intro gj d5
    obtain⟨d6,cc,d7,rfl,cd,bi,ce⟩:=d5
    have cd:Rd _ _ EZ d6 d.1:=cd
    have bi:Sl _ _ AM cc d.2.1:=bi
    have ce:Sl _ _ AM d7 d.2.2:=ce
    intro a Z
    exact⟨cc,O5 Z O O,bi⟩
   refine Mv.cons [(12,28)] (by kernel_rfl) O O (by kernel_rfl) ?_ ?_
   ·intro X mq t o
    intro gk d8
    obtain⟨d9,ea,cf,rfl,cg,ch,bj⟩:=d8
    have cg:Rd _ _ EZ d9 d.1:=cg
    have ch:Sl _ _ AM ea d.2.1:=ch
    have bj:Sl _ _ AM cf d.2.2:=bj
    intro a Z
    exact⟨cf,O5 Z O O,bj⟩
   exact trivial
  ·refine Fq.cons O O O ?_ ?_
   ·intro X mq t o J
    have j:=o.st c
    exact A5 1 (BP BX j.1 O (a5.mono (e6.trans (Q.trans (ag.trans (ah.trans (ai.trans (I.trans (o.ext c.1)))))))) Hc (λe=>by cases e) O λgl eb=>BF eb)
   refine Fq.cons O O O ?_ ?_
   ·intro X mq t o J
    have j:=o.st c
    exact A5 1 (Cw (vs:=[vI U,a1,a2,a3]) BX j O (mt mh) O O Jj O O (BF ⟨O,dx⟩))
   refine Fq.cons O O O ?_ ?_
   ·intro X mq t o J
    have j:=o.st c
    exact A5 1 (Cw (vs:=[ba,bb,bc,be,bf]) BX j O mh O O Rn O O (BF O))
   refine Fq.cons O O O ?_ ?_
   ·intro X mq t o J
    have j:=o.st c
    exact A5 1 (BR BX j.1 O (c0.mono (e6.trans (Q.trans (ag.trans (ah.trans (ai.trans (I.trans (o.ext c.1)))))))) cH O λgm ec=>BF ec)
   refine Fq.cons O O O ?_ ?_
   ·intro X mq t o J
    have j:=o.st c
    exact A5 1 (BP BX j.1 O (c1.mono (e6.trans (Q.trans (ag.trans (ah.trans (ai.trans (I.trans (o.ext c.1)))))))) O8 (λe=>by cases e) O λgn ed=>BF ed)
   refine Fq.cons O O O ?_ ?_
   ·intro X mq t o J
    have j:=o.st c
    exact A5 1 (AF KT O (BF O))
   refine Fq.cons O O O ?_ ?_
   ·intro X mq t o J
    intro gp ee
    have j:=o.st c
    cases ee
    exact A5 1 (AT BX j O (mt mh) O AZ O (BF ⟨O,dx⟩))
   refine Fq.cons O O O ?_ ?_
   ·intro X mq t o J
    have j:=o.st c
    exact A5 1 (AV O (a5.mono (e6.trans (Q.trans (ag.trans (ah.trans (ai.trans (I.trans (o.ext c.1)))))))) CC En O λgq ef=>BF ef)
   refine Fq.cons O O O ?_ ?_
   ·intro X mq t o J
    intro eg bk
    have j:=o.st c
    have bk:Pt _ _ (B7.sl Cb) eg C.D:=bk
    exact A5 1 (BR BX j.1 O bk HD O λgr eh=>BF eh)
   refine Fq.cons O O O ?_ ?_
   ·intro X mq t o J
    intro ei bl
    have j:=o.st c
    have bl:Sl _ _ Cb ei C.D:=bl
    exact A5 1 (BJ O bl Ga O λej=>BF ⟨O,(LW ej)⟩)
   refine Fq.cons O O O ?_ ?_
   ·intro X mq t o J
    intro ek ap gs el gu em
    have j:=NE (X:=X) c o
    have ap:=Rd.mono (S':=(SX g u t X)) ap ⟨λb hb=>(SX.ext c.1 o J).sub b hb,λ_ _=>rfl,jB _⟩
    have ap:Rd _ _ GF ek ax:=ap
    obtain⟨rfl,en⟩:=el
    obtain⟨rfl,eo⟩:=em
    have bm:=j.fz
    refine Ea O O O aE O bm (Se (St.all _) (ap.mono ⟨λb hb=>bm.1 b hb,λ_ _=>rfl,jB _⟩) en eo db) λgv gw gx gg ep eq p=>?_
    have dd:=p
    have bn:=bm.join eq dd ⟨OS.flat (λ{_ _ _ _ _ _} k=>k),trivial⟩
    simp only[mI,kF] at bn
    obtain⟨gy,de,er,es⟩:=bn.pubs .head
    have bo:=SX.done o J (ep.trans er) de
    exact GB bo.1 (Sl.mono' es bo.2)
   refine Fq.cons O O O ?_ ?_
   ·intro X mq t o J
    intro et aq gz eu g0 ev ew ar ey bp
    have j:=NE (X:=X) c o
    have aq:=Rd.mono (S':=(SX g u t X)) aq ⟨λb hb=>(SX.ext c.1 o J).sub b hb,λ_ _=>rfl,jB _⟩
    have aq:Rd _ _ Ch et C:=aq
    obtain⟨rfl,ez⟩:=eu
    cases ev
    have ar:=Sl.mono' (S':=(SX g u t X)) ar ⟨λb hb=>(SX.ext c.1 o J).sub b hb,λ_ _=>rfl,jB _⟩
    have ar:Sl _ _ B7.bool ew aw:=ar
    have bp:Sl _ _ AM ey cb:=bp
    have bm:=j.fz
    have ay:=ah.trans (ai.trans (I.trans (SX.ext c.1 o J)))
    refine GO O O O fB O (P7 bm aq (EZ.mk (x:=(⟨U,a6,a7,a8⟩:Cf)) ez (f1.mono' ay) (f2.mono' ay) (f3.mono' ay)) (FB.mk (x:=(⟨b1,b2,b4,b5,b6⟩:CW)) (ga.mono' (SX.ext c.1 o J)) (gb.mono' (SX.ext c.1 o J)) (gc.mono' (SX.ext c.1 o J)) (ge.mono' (SX.ext c.1 o J)) (gf.mono' (SX.ext c.1 o J))) ar bp dc) λg1 g2 g3 e1 p=>?_
    obtain⟨g4,g5,g6,rfl,e2,df⟩:=p
    obtain⟨g7,dg,ci,e3⟩:=df.pubs .head
    obtain⟨g8,dh,bq,e4⟩:=dg.pubs .head
    have aj:=SX.done o J (e1.trans (ci.trans bq)) dh
    exact GB aj.1 ⟨_,_,_,O,(Rd.mono (e2.mono (ci.trans bq)) aj.2),(Sl.mono' (e3.mono' bq) aj.2),(Sl.mono' e4 aj.2)⟩
   refine Fq.cons O O O ?_ ?_
   ·intro X mq t o J
    intro g9 e5
    have j:=NE (X:=X) c o
    obtain⟨e7,e8,e9,rfl,br,bs,bt⟩:=e5
    have br:Rd _ _ EZ e7 d.1:=br
    have bs:Sl _ _ AM e8 d.2.1:=bs
    have bt:Sl _ _ AM e9 d.2.2:=bt
    exact A5 1 (AA O (BF ⟨_,_,_,O,br,bs,bt⟩))
   refine Fq.cons O O O ?_ ?_
   ·intro X mq t o J
    intro ha fb
    have j:=NE (X:=X) c o
    obtain⟨fc,fd,fe,rfl,bu,cj,ck⟩:=fb
    have bu:Rd _ _ EZ fc d.1:=bu
    have cj:Sl _ _ AM fd d.2.1:=cj
    have ck:Sl _ _ AM fe d.2.2:=ck
    exact A5 1 (De O (BF bu))
   refine Fq.cons O O O ?_ ?_
   ·intro X mq t o J
    intro hc ff
    have j:=NE (X:=X) c o
    obtain⟨fg,fh,fi,rfl,cl,bv,cm⟩:=ff
    have cl:Rd _ _ EZ fg d.1:=cl
    have bv:Sl _ _ AM fh d.2.1:=bv
    have cm:Sl _ _ AM fi d.2.2:=cm
    exact A5 1 (De O (BF bv))
   refine Fq.cons O O O ?_ ?_
   ·intro X mq t o J
    intro hd fj
    have j:=NE (X:=X) c o
    obtain⟨fk,fl,fm,rfl,cn,co,bw⟩:=fj
    have cn:Rd _ _ EZ fk d.1:=cn
    have co:Sl _ _ AM fl d.2.1:=co
    have bw:Sl _ _ AM fm d.2.2:=bw
    exact A5 1 (De O (BF bw))
   exact Fq.al (λ_=>rfl) VB O (Fq.skip (by kernel_rfl) (Fq.skip (by kernel_rfl) (Fq.skip (by kernel_rfl) (trivial))))
  intro he hg az ak fn bx fo bz fp cp hi fq gh di
  obtain⟨hj,rfl,fr,fs,ft⟩:=fq
  have dj:=(Yk.cons (Yk.nil c az ak) fr fs ft jL (di.at_ (s:=11) (by kernel_rfl) O O)).st
  have bx:Rd _ _ EZ fn d.1:=bx
  have bz:Sl _ _ AM fo d.2.1:=bz
  have cp:Sl _ _ AM fp d.2.2:=cp
  obtain⟨ac,ad,ae,rfl,fu,cq,cr,ct⟩:=EZ.ex bx
  refine IR (vs:=[vI d.1.K,ac,ad,ae]) (cs':=[vI d.1.K,ac,ad,ae]) O O O (AG O (AG cq.one (AG cr.one (AG ct.one GJ)))) Jj O dj .head O O λhk dk V=>A5 1 (A4 O (A6 (A5 1 (A4 O (A6 (AS (kp [12,11,9,15,8,0,3,4,5,6,16] O) (AC (AC (XA (J8 3 Me (AA O (AA O (AA O (KC ?_))))))))))))))
  have dl:=dk.pick (.tail (.tail (.tail .head)))
  obtain⟨fv,dm,E⟩:=bd E
  refine UU yc O O dm (e0.trans (e6.trans (Q.trans (ag.trans (ah.trans (ai.trans (I.trans ((SX.ext c.1 az ak).trans V)))))))) dl ⟨_,O,f0,(bz.mono' V)⟩ O (λb0 fw fx af am=>?_) (λb0 fw fx af am=>?_)
  ·have E:=GX b0 E
   refine J8 1 Me (BT O (KC (YL.nil (kp [48,11,15,8,0,3,4,5,6,16] O) (RS O (AQ (Gf (A5 1 (Cw (vs:=[vI d.1.K,ac,ad,ae]) BX am O (mt mh) O O Jj O O (A6 ?_)))))))))
   have cu:=ct.mono' (V.trans af)
   have cv:=cr.mono' (V.trans af)
   have cw:=cq.mono' (V.trans af)
   refine IR (vs:=[vI d.1.K,ac,ad,ae]) (cs':=[vI d.1.K,ac,ad,ae]) O O O (AG O (AG cw.one (AG cv.one (AG cu.one GJ)))) Jj O am (.tail (.tail (.tail .head))) O O λhl dn a0=>AS (kp [15,8,0,3,4,5,6,16] O) (B0 (CL (.inl O) (BD O (AA O (AL (kp [16,15,8,0,3,4,5,6] O) (WF.nil (λaa ww Z hw=>?_)))))))
   have dp:=dn.sel [3,0] 2 O
   exact⟨(B8 (W+1)),d.1.K,ac,d.1.M,ad,d.1.S,ae,d.1.F,fv.2,_,_,Z.sub (kp [15,8,0,3,4,5,6,16] O),hw,dp,(ag.trans (ah.trans (ai.trans (I.trans ((SX.ext c.1 az ak).trans (V.trans (af.trans a0))))))),(CJ _),fu,(cw.mono' a0),(cv.mono' a0),(cu.mono' a0),E⟩
  have E:=GY b0 E
  refine J8 1 Me (BT O (KC (YL.nil (kp [48,11,15,8,0,3,4,5,6,16] O) (ND O (WF.ret (λaa ww Z hw=>?_))))))
  have dq:=am.sel [0] 3 O
  cases E
  exact I1 Z O hw Io O (e6.trans (Q.trans (ag.trans (ah.trans (ai.trans (I.trans ((SX.ext c.1 az ak).trans (V.trans af)))))))) ⟨O,dq⟩
 refine JV O (WF.nil (λaa ww Z hw=>?_))
 have dr:=b8.sel [1] 1 O
 cases E
 exact I1 Z O hw Io O (e6.trans (Q.trans ag)) ⟨O,dr⟩
def Ib (hs:St S L h) {af:Value}{X:AU}(bh:Rd S h Ch af X) {i:Int}(b3:AD i) {ag:Value}{aj:Cf}(bi:Rd S h EZ ag aj) {j:Value}{D:(List Cr)}(F:Sl S h GF j D) {g:Value}{C:(List CW)}(a4:Sl S h FB g C) {d:Value}{t:(List Bool)}(au:Sl S h B7.bool d t) {c:Int}(ak:AD c) {r:DG}(E:Fb N X i aj D C t c=some r):
 Ct prog 18 #[af,vI i,ag,j,g,d,vI c] S h (λv S' h'=>v= .agg #[vI r.O,.bool r.Aw]∧DG.ok r∧St S' (L) h'):=by
 refine BO (l:=[af,vI i,ag,j,g,d,vI c]) 87 func18 O ntmps18 O λB=>?_
 rw[Fb] at E
 have eg:=XD hs
 refine WF.sl (BM O bh (λe=>by cases e) O eg λq1 S2 h3 eh e5 k6=>BM O (bi.mono e5) (λe=>by cases e) O eh λq8 S9 fu cq av ei=>CX Yn O cq λW fv am an=>AS (kp [14,9,7,1,3,4,5,6] O) (AC (AE (AA O (BE O (AA O (AO 6 31 (.bool ((decide (i<0))||(decide ((↑X.Ac.length:Int)≤i)))) ?_ ?_)))))))
 ·cases fw:(decide (i<0))
  ·exact AB O (AA O (AB O (AV O (k6.mono (av.trans an)) Gg K5 O λfx ej=>AB O (BR BX am.1 O ej O7 O λfy ek=>AB O (BJ O ek NS O λfz=>AB O (EQ O (AI O (AN O))))))))
  exact AX O O
 refine AL (kp [31,14,9,7,1,3,4,5,6] O) (AW O E (λel E=>?_) (λel E=>?_))
 ·refine WF.sl (A5 1 (DB (cs:=[vI (-1),.bool false]) NO O O O (A6 (BU (vs:=[vI (-1),.bool false]) O O O O ON O am .head O λf0 cr em=>AS (kp [14] O) (WF.ret (λZ ww u y=>?_))))))
  have ct:=cr.sel [1,0] 0 O
  refine Xo (vs:=[.agg #[vI (-1),.bool false]]) u O y ct O (e5.trans (av.trans (an.trans em))) λw9 f1 b4 bk f2=>?_
  have cu:=bk.drop .head
  cases E
  exact⟨(IH (M2 u b4 bk O mh ON O) Io),⟨O,(iq (n:=(-1)) O),cu⟩⟩
 refine AQ (WF.sl (A5 5 ?_))
 have cv:=k6.mono (av.trans an)
 refine AV O cv Gg K5 O λf3 en=>BR BX am.1 O en O7 O λf4 eo=>AA O ?_
 obtain⟨b,cw,E⟩:=bd E
 refine B6 O O eo NS cw O λf5 ep=>BP BX am.1 O ep KY (λe=>by cases e) O λf6 eq=>A6 (CX Ql O am λG f7 cx aw=>?_)
 obtain⟨rfl,⟨f8,f9,ga,gb,gc,ge,gf⟩⟩:=Fi.ex (eq.mono aw)
 refine BU (vs:=[.string b.J,vI b.Ah,vI b.Bc,vI b.Az,vI b.Bh,vI b.Bd,vI b.Aw]) O O O O KY O cx .head O λcy bl a5=>AS (kp [15,14,9,7,3,4,5,6] O) (AE (AA O (AJ O (kp [16,15,14,9,7,4,5,6] O) (AC (AE (AA O (BJ O (F.mono' (e5.trans (av.trans (an.trans (aw.trans a5))))) NR O λgg=>CR O (AL (kp [41,16,15,14,9,7,4,5,6] O) (HW (λa w=>∃(a6:Value) (ax:List Cr),IV B S9 cy (87,LP ([])) a w [(15,vP G 0),(14,vP W 0),(9,q8),(7,q1),(4,g),(5,d),(6,vI c),(16,a6)] (Bx G 114 [.string b.J,vI b.Ah,vI b.Bc,vI b.Az,vI b.Bh,vI b.Bd,vI b.Aw]::Bx W 64 [vI 0,.bool false]::Sw ([])::L) λS' h'=>Sl S' h' GF a6 ax∧HU N X aj C t c b ax=some r) ?_ ?_)))))))))
 ·refine AW O E (λer E=>?_) (λer E=>?_)
  ·refine Gf (A5 1 (DB (cs:=[vI 0,vI 0,vN]) ZS O O O (A6 (JF (cs:=[vI 0,vI 0,vN]) dT O O O O O O O bl λes gh cz et=>A5 1 (A4 O (A6 (AS (kp [16,15,14,9,7,4,5,6] O) (WF.nil (λZ ww u y=>?_)))))))))
   have c0:=cz.bxos (r:=GF) (l:=([(⟨0,0,[]⟩:Cr)]:List Cr)) .head ⟨_,_,O,⟨_,O,(iq (n:=0) O),(iq (n:=0) O),(.inl ⟨O,O⟩)⟩,O⟩ (by simp [maxLen])
   obtain⟨gi,c1,eu,ev⟩:=c0.pubs .head
   exact⟨(.slice (some ⟨es,0,none⟩) 1 1),([(⟨0,0,[]⟩:Cr)]:List Cr),_,_,u.sub (kp [15,14,9,7,4,5,6,16] O),y,c1,(et.trans eu),ev,E⟩
  refine AQ (WF.nil (λZ ww u y=>?_))
  exact⟨j,D,_,_,u.sub (kp [15,14,9,7,4,5,6,16] O),y,bl,(Cm.refl S9 cy),(F.mono' (e5.trans (av.trans (an.trans (aw.trans a5))))),E⟩
 rintro Z ww ⟨a6,ax,b5,gj,u,y,c2,bj,ew,E⟩
 refine A8 ?_ u y
 clear u y ww Z
 rw[HU] at E
 refine WF.sl (CX Xb O c2 λH gk c3 a7=>BU (vs:=[vI (-1)]) O O O O AZ O c3 .head O λgl c4 a8=>AS (kp [17,15,14,9,7,4,5,6,16] O) (WF.sl (A5 2 (AA O (LE O O O (A6 (CX Xb O c4 λah gm c5 a9=>BU (vs:=[vI (min c 24)]) O O O O AZ O c5 .head O λb6 c6 ba=>AS (kp [18,17,15,14,9,7,4,5,16] O) (AC (AE (AA O ?_))))))))))
 have c7:=ew.mono' (a7.trans (a8.trans (a9.trans ba)))
 refine BJ O c7 NR O λgn=>AA O (AL (kp [48,47,46,18,17,15,14,9,7,4,5] O) (BG (λa w=>∃(K:Int) (ay:List Nat),IV B b5 b6 (87,LP ay) a w [(17,vP H 0),(14,vP W 0)] (Bx H 3 [vI K]::Bx W 64 [vI 0,.bool false]::Sw ay::L) λ_ _=>AD K∧EF N K=some r) ?_ ?_))
 ·refine Bt (λn2=>λa w=>∃(M:Int) (ao:Int) (ab:Int) (o:List Nat),IV B b5 b6 (87,LP o) a w [(47,vI (↑ax.length:Int)),(46,a6),(18,vP ah 0),(17,vP H 0),(15,vP G 0),(14,vP W 0),(9,q8),(7,q1),(4,g),(5,d),(48,vI M)] (Bx ah 3 [vI ao]::Bx H 3 [vI ab]::Bx G 114 [.string b.J,vI b.Ah,vI b.Bc,vI b.Az,vI b.Bh,vI b.Bd,vI b.Aw]::Bx W 64 [vI 0,.bool false]::Sw o::L) λ_ _=>AD M∧AD ao∧AD ab∧DX N X aj C t b ax (EF N) n2 M ao ab=some r) N ?_ ?_ ?_
  ·intro Z ww u y
   exact⟨0,(min c 24),(-1),([]),_,_,u.sub (kp [47,46,18,17,15,14,9,7,4,5,48] O),y,c6,(Cm.refl b5 b6),(iq (n:=0) O),(ID ak (iq (n:=24) O)),(iq (n:=(-1)) O),E⟩
  ·rintro Z ww ⟨_,_,_,_,_,_,_,_,_,_,_,_,_,E⟩
   rw[DX] at E;cases E
  rintro n2 Z ww ⟨M,ao,ab,o,c8,c9,u,y,az,ac,e0,bm,bn,E⟩
  refine A8 ?_ u y
  clear u y ww Z
  rw[DX] at E
  refine AE (BE O (AL (kp [49,47,46,18,17,15,14,9,7,4,5,48] O) (AC (AW O E (λda E=>?_) (λda E=>?_)))))
  ·refine AQ (AC (BG (λa w=>∃(ap:Int) (aq:Int) (ai:List Nat),IV B c8 c9 (87,LP ai) a w [(47,vI (↑ax.length:Int)),(46,a6),(18,vP ah 0),(17,vP H 0),(15,vP G 0),(14,vP W 0),(9,q8),(7,q1),(4,g),(5,d),(48,vI M)] (Bx ah 3 [vI ap]::Bx H 3 [vI aq]::Bx G 114 [.string b.J,vI b.Ah,vI b.Bc,vI b.Az,vI b.Bh,vI b.Bd,vI b.Aw]::Bx W 64 [vI 0,.bool false]::Sw ai::L) λ_ _=>AD ap∧AD aq∧HT N M (DX N X aj C t b ax (EF N) n2) ap aq=some r) ?_ ?_))
   ·refine WF.sl (A5 2 ?_)
    obtain⟨z,b7,E⟩:=bd E
    refine B6 O O (c7.mono' ac) NR b7 O λe2 db=>BP BX az.1 O db O8 (λe=>by cases e) O λe3 dc=>A6 (CX ZI O az λbo e4 b8 ad=>?_)
    obtain⟨ar,rfl,dd,de,bp⟩:=GF.ex (dc.mono ad)
    refine IR (vs:=[vI z.At,vI z.I,ar]) (cs':=[vI z.At,vI z.I,ar]) O O O (AG O (AG O (AG bp.one GJ))) O8 O b8 .head O O λe6 Q ae=>AS (kp [20,47,46,18,17,15,14,9,7,4,5,48] O) (WF.sl (A5 6 (BP BX Q.1 O (cv.mono (aw.trans (a5.trans (bj.trans (a7.trans (a8.trans (a9.trans (ba.trans (ac.trans (ad.trans ae)))))))))) Hc (λe=>by cases e) O λe7 df=>BP BX Q.1 O (ei.mono (an.trans (aw.trans (a5.trans (bj.trans (a7.trans (a8.trans (a9.trans (ba.trans (ac.trans (ad.trans ae))))))))))) Jj (λe=>by cases e) O λe8 dg=>Cw (vs:=[vI z.At,vI z.I,ar]) BX Q O mh O O O8 O O (AA O (AA O (AT BX Q O (mt mh) O AZ O (A6 ?_)))))))
    have bb:=e5.trans (av.trans (an.trans (aw.trans (a5.trans (bj.trans (a7.trans (a8.trans (a9.trans (ba.trans (ac.trans (ad.trans ae)))))))))))
    obtain⟨e9,b9,E⟩:=bd E
    refine GO O O O eD O (Ol Q df dg (GF.mk (x:=z) dd de (bp.mono' ae)) (a4.mono' bb) (au.mono' bb) bm b9) λfb fc fd bq p=>?_
    obtain⟨br,bs,bt,bu,bv,bw,rfl,dh,di,dj,dk,dl,dm,ca⟩:=p
    refine AS (kp [58,47,46,18,17,15,14,9,7,4,5,48] O) (BW ?_)
    have cb:=ca.sel [1,1,1,2,0,0] 0 O
    obtain⟨m,cc,E⟩:=bd E
    refine XB (Ds:=o) 2 (λ(ss:Int×Int)=>[Pu (AD ss.1∧AD ss.2),Bx ah 3 [vI ss.1],Bx H 3 [vI ss.2],Bx G 114 [.string b.J,vI b.Ah,vI b.Bc,vI b.Az,vI b.Bh,vI b.Bd,vI b.Aw]]) (ao,ab) (Ri AM) (λxx ss=>FT N b xx.1 xx.2 ss.1 ss.2) m (λvs=>[(21,vs.getD 0 undef),(22,vs.getD 1 undef),(18,vP ah 0),(17,vP H 0),(15,vP G 0)]) O aF (by kernel_rfl) (Nu cb ⟨bm,bn⟩) (λk=>Ri.len k) (λk e=>Ri.mono k e) ?_ ?_ ?_ ?_ ?_
    ·intro yv Y S1 h1 L1 e1 yc ey
     rw[show ((#[yv]:Array Value)++ #[br,bs,bt,bu,bv,bw])= #[yv,br,bs,bt,bu,bv,bw] from fG _ _]
     exact(Nt yc (Cm.refl _ _) ey (dh.mono e1) (di.mono e1) (dj.mono e1) (dk.mono e1) (dl.mono e1) (dm.mono e1) cc).mono λ_ _ _ _ p=>p.2
    ·intro vs B h1 hl
     match vs,hl with
     |[v0,v1],_=>
      refine AE ?_
      refine AJ O (kp [21,59,60,18,17,15] O) ?_
      refine CL (.inl O) ?_
      refine AJ O (kp [22,21,59,60,18,17,15] O) ?_
      refine WF.nil (λZ ww u y=>?_)
      exact⟨u.sub (kp [21,22,18,17,15] O),y⟩
    ·rintro ⟨a0,a1⟩ ⟨bc,be⟩ ez vs bx bz dn B cd fe ce cf
     have E:FT N b a0 a1 bc be=some ez:=cd
     rw[FT] at E
     obtain⟨dp,rfl,a2,a3⟩:=ce
     have a2:AD a0:=a2
     have a3:Sl _ _ _ dp a1:=a3
     have s:St bx (Pu (AD bc∧AD be)::Bx ah 3 [vI bc]::Bx H 3 [vI be]::Bx G 114 [.string b.J,vI b.Ah,vI b.Bc,vI b.Az,vI b.Bh,vI b.Bd,vI b.Aw]::dn) bz:=cf
     obtain⟨⟨dq,dr⟩,s⟩:=Sn s
     refine BW (AC (CL (.inr ⟨mo,by kernel_rfl⟩) (AF No O (AT BX s O (mt (mt mh)) O AZ O (EQ O (AA O (AO 6 70 (.bool ((decide (0≤b.Ah))&&(decide (b.Ah<(↑a1.length:Int))))) ?_ ?_)))))))
     ·cases ff:(decide (0≤b.Ah))
      ·exact AX O O
      exact AB O (AF No O (AB O (AT BX s O (mt (mt mh)) O AZ O (AB O (AA O (AB O (BJ O a3 Gs O λfg=>AB O (BE O (AI O (AN O))))))))))
     refine AA O ?_
     obtain⟨ds,A,E⟩:=bd E
     refine AO 10 81 (.bool ds) ?_ ?_
     ·cases b0:((decide (0≤b.Ah))&&(decide (b.Ah<(↑a1.length:Int))))
      ·have A:=GY b0 A
       cases A
       exact AX O O
      have A:=GX b0 A
      refine AB O (AA O (AB O (AF No O (AB O (AT BX s O (mt (mt mh)) O AZ O (AB O ?_))))))
      obtain⟨fh,cg,A⟩:=bd A
      refine B6 O O a3 Gs cg O λfi dt=>AB O (AV O dt AH.f_Hi D2 O λfj du=>AB O (AY BX s.1 O du AZ O λfk=>AB O (AF ST O (AB O (AT BX s O (mt (mt mh)) O AZ O (AB O (CN O (AI O ?_))))))))
      cases A
      exact AN O
     refine AL (kp [81,21,18,17] O) (AW O E (λdv E=>?_) (λdv E=>?_))
     ·refine WF.sl (A5 2 (AA O (AA O (A6 (BU (vs:=[vI a0]) O O O O AZ O s (.tail .head) O λfl ch dw=>BU (vs:=[vI a0]) O O O O AZ O ch .head O λfm ci dx=>AS Kv (WF.exit O (λZ ww u y=>?_)))))))
      cases E
      exact⟨O,_,_,y,(dw.trans dx),(Nu ci ⟨a2,a2⟩)⟩
     refine AQ (B0 (WF.nil (λZ ww u y=>?_)))
     cases E
     exact⟨O,_,_,y,(Cm.refl bx bz),(Nu s ⟨dq,dr⟩)⟩
    ·intro dy dz d0 b1 d1 U
     have E:=GX dy E
     have U:St dz (Pu (AD m.2.1∧AD m.2.2)::Bx ah 3 [vI m.2.1]::Bx H 3 [vI m.2.2]::Bx G 114 [.string b.J,vI b.Ah,vI b.Bc,vI b.Az,vI b.Bh,vI b.Bd,vI b.Aw]::Sw (b1::o)::Bx bo 123 [vI z.At,vI z.I,ar]::Bx W 64 [vI 0,.bool false]::L) d0:=U
     obtain⟨⟨d2,d3⟩,U⟩:=Sn U
     refine B0 (WF.nil (λZ ww u y=>?_))
     have cj:=U.sel [0,0,0,2,0] 1 O
     exact⟨m.2.1,m.2.2,(b1::o),_,_,u.sub (kp [47,46,18,17,15,14,9,7,4,5,48] O),y,cj,(ad.trans (ae.trans (bq.trans d1))),d2,d3,E⟩
    intro d4 d5 d6 b2 d7 V
    have E:=GY d4 E
    have V:St d5 (Pu (AD m.2.1∧AD m.2.2)::Bx ah 3 [vI m.2.1]::Bx H 3 [vI m.2.2]::Bx G 114 [.string b.J,vI b.Ah,vI b.Bc,vI b.Az,vI b.Bh,vI b.Bd,vI b.Aw]::Sw (b2::o)::Bx bo 123 [vI z.At,vI z.I,ar]::Bx W 64 [vI 0,.bool false]::L) d6:=V
    obtain⟨⟨d8,d9⟩,V⟩:=Sn V
    refine JV O (WF.nil (λZ ww u y=>?_))
    have ck:=V.sel [0,0,0,2,0] 1 O
    exact⟨m.2.1,m.2.2,(b2::o),_,_,u.sub (kp [47,46,18,17,15,14,9,7,4,5,48] O),y,ck,(ad.trans (ae.trans (bq.trans d7))),d8,d9,E⟩
   rintro Z ww ⟨ap,aq,ai,fn,fo,u,y,cl,ea,eb,ec,E⟩
   refine A8 ?_ u y
   clear u y ww Z
   rw[HT] at E
   refine CL (.inl O) (BD O (AA O (AL (kp [48,47,46,18,17,15,14,9,7,4,5] O) (WF.nil (λZ ww u y=>?_)))))
   exact⟨(B8 (M+1)),ap,aq,ai,_,_,u.sub (kp [47,46,18,17,15,14,9,7,4,5,48] O),y,cl,(ac.trans ea),(CJ _),eb,ec,E⟩
  refine WF.exit O (λZ ww u y=>?_)
  have cm:=az.sel [1,2,2] 2 O
  exact⟨ab,o,_,_,u.sub (kp [17,14] O),y,cm,ac,bn,E⟩
 rintro Z ww ⟨K,ay,fp,fq,u,y,bf,ed,ee,E⟩
 refine A8 ?_ u y
 clear u y ww Z
 rw[EF] at E
 refine WF.sl (A5 2 (AT BX bf O mh O AZ O (DB (cs:=[vI K,.bool false]) NO O O O (A6 (BU (vs:=[vI K,.bool false]) O O O O ON O bf (.tail .head) O λfr cn ef=>AS (kp [14] O) (WF.ret (λZ ww u y=>?_)))))))
 have co:=cn.sel [2,1] 1 O
 refine Xo (vs:=[.agg #[vI K,.bool false]]) u O y co O (e5.trans (av.trans (an.trans (aw.trans (a5.trans (bj.trans (a7.trans (a8.trans (a9.trans (ba.trans (ed.trans ef))))))))))) λw9 fs b4 bg ft=>?_
 have cp:=bg.drop .head
 cases E
 exact⟨(IH (M2 u b4 bg O mh ON O) Io),⟨O,ee,cp⟩⟩
end Go.Proofs.YtibidnaedddfdaaGreat
