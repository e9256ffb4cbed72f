import Derived.Test.YtblcgjadhemlbaaGreatVWalk7
namespace Go.Proofs.YtblcgjadhemlbaaGreat
set_option linter.all false
open Go.RowKit
open Go.Proofs.Tryz
set_option maxRecDepth 10000
set_option maxHeartbeats 2000000
variable {N:Nat}{S:Nat→Prop}{L:List HP}{h:BL}
def Nn {u:Nat}{p0_w:A4}{af:Value}{ag:Value}{ah:Value}{ai:Value}{aj:Value}{ak:Value}{am:Value}{an:Value}{W:Value}{Y:Value}{Z:Value}{ab:Value}{ac:Value}{t:Value}{c:Value}{C:Value}{d:Value}{z:Value}{g:Value}{ae:Value}{k:Value}{p:Value}(hs:St S (Bx u 84 [.string p0_w.b.F,af,vI p0_w.b.R,ag,ah,ai,aj,ak,am,an,vI p0_w.b.U,W,Y,Z,ab,ac,vI p0_w.s.B,t,c,C,d,z,g,ae,k,p]::OO AJ 3 29 t p0_w.s.G::OS AJ 3 c p0_w.s.M::OS Bu 69 d p0_w.s.Q::OS AJ 3 z p0_w.s.O::OS AJ 3 g p0_w.s.P::OS CF 50 ae p0_w.moves::OS AJ 3 k p0_w.peaks::OS BI 60 p p0_w.sent::L) h) (dq:p0_w.b.F.size≤maxLen) (bm:Sl S h BW.str af p0_w.b.H) (dr:AH p0_w.b.R) (bn:Sl S h Cd ag p0_w.b.A) (ds:Sl S h Ce ah p0_w.b.E) (dt:Sl S h HB ai p0_w.b.Ag) (du:Sl S h FL aj p0_w.b.Aq) (dv:Sl S h G2 ak p0_w.b.At) (dw:Sl S h Dh am p0_w.b.Av) (dx:Sl S h AJ an p0_w.b.Au) (co:AH p0_w.b.U) (aw:Sl S h AJ W p0_w.in_.Aa) (cp:Sl S h GL Y p0_w.in_.Am) (cq:Sl S h JE Z p0_w.in_.Ar) (cr:Sl S h GV ab p0_w.in_.Ae) (ct:Sl S h HC ac p0_w.in_.Az) (a6:AH p0_w.s.B) (a7:Sl S h BI C p0_w.s.J) {r:(List (List Int))×(List Int)×(List BA)}(E:IQ N p0_w=some r):
 C5 prog 32 #[vP u 0] S h (λv S' h'=>∃a9 ba bb:Value,v= .tuple #[]∧St S' (Bx u 84 [.string p0_w.b.F,af,vI p0_w.b.R,ag,ah,ai,aj,ak,am,an,vI p0_w.b.U,W,Y,Z,ab,ac,vI p0_w.s.B,a9,c,C,d,ba,g,bb,k,p]::OO AJ 3 29 a9 r.1::OS AJ 3 c p0_w.s.M::OS Bu 69 d p0_w.s.Q::OS AJ 3 ba r.2.1::OS AJ 3 g p0_w.s.P::OS CF 50 bb r.2.2::OS AJ 3 k p0_w.peaks::OS BI 60 p p0_w.sent::L) h'):=by
 refine Bv (l:=[vP u 0]) 137 func32 O ntmps32 O λB=>?_
 rw[IQ] at E
 refine AI (AM O (kp [2,0] O) (AE (AI (AA O (C7 O O (AD DI O (AD Eo O (AS BY hs O mh O Hz O (Ya hs (mt mh) O Fx O λb1=>AA O (AN (kp [17,16,15,2,0] O) (BF (λa w=>∃(i2:Int),IV B S h (137,[]) a w [(0,vP u 0),(2,vI i2)] (Bx u 84 [.string p0_w.b.F,af,vI p0_w.b.R,ag,ah,ai,aj,ak,am,an,vI p0_w.b.U,W,Y,Z,ab,ac,vI p0_w.s.B,t,c,C,d,z,g,ae,k,p]::OO AJ 3 29 t p0_w.s.G::OS AJ 3 c p0_w.s.M::OS Bu 69 d p0_w.s.Q::OS AJ 3 z p0_w.s.O::OS AJ 3 g p0_w.s.P::OS CF 50 ae p0_w.moves::OS AJ 3 k p0_w.peaks::OS BI 60 p p0_w.sent::L) λ_ _=>AH i2∧ED N p0_w i2=some r) ?_ ?_)))))))))))
 ·refine BT (λn1=>λa w=>∃(i8:Int) (bq:Int),IV B S h (137,[]) a w [(16,vI (↑p0_w.s.G.length:Int)),(15,t),(0,vP u 0),(2,vI i8),(17,vI bq)] (Bx u 84 [.string p0_w.b.F,af,vI p0_w.b.R,ag,ah,ai,aj,ak,am,an,vI p0_w.b.U,W,Y,Z,ab,ac,vI p0_w.s.B,t,c,C,d,z,g,ae,k,p]::OO AJ 3 29 t p0_w.s.G::OS AJ 3 c p0_w.s.M::OS Bu 69 d p0_w.s.Q::OS AJ 3 z p0_w.s.O::OS AJ 3 g p0_w.s.P::OS CF 50 ae p0_w.moves::OS AJ 3 k p0_w.peaks::OS BI 60 p p0_w.sent::L) λ_ _=>AH i8∧AH bq∧EB N p0_w (ED N p0_w) n1 i8 bq=some r) N ?_ ?_ ?_
  ·intro aa ww hf hw
   exact⟨0,0,_,_,hf.sub (kp [16,15,0,2,17] O),hw,hs,(Cv.refl S h),(iq (n:=0) O),(iq (n:=0) O),E⟩
  ·rintro aa ww ⟨_,_,_,_,_,_,_,_,_,_,E⟩
   rw[EB] at E;cases E
  rintro n1 aa ww ⟨i8,bq,hp,hq,hf,hw,bc,dy,r9,ht,E⟩
  refine A6 ?_ hf hw
  clear hf hw ww aa
  rw[EB] at E
  refine AI (BK O (AN (kp [18,16,15,0,2,17] O) (AE (AX O E (λfv E=>?_) (λfv E=>?_)))))
  ·refine AT (AE (BV (AI ?_)))
   obtain⟨hu,dz,E⟩:=bd E
   refine Oc (r:=AJ) bc (mt mh) O O Fx dz O λhv d0=>?_
   obtain⟨hx,d1,E⟩:=bd E
   refine Sj (r:=AJ) BY bc (mt mh) O d1 d0 CG O λhy ge fw=>AM O (kp [4,16,15,0,2,17] O) (CX (.inl O) bc (AA O (AA O ?_)))
   obtain⟨fx,d2,E⟩:=bd E
   refine DF O O O Nj O (λh' o=>Fg (St.all h') (fw.mono (λb hb=>nH hb o.siz) (λb hb=>o.same b hb)) d2) λfy=>?_
   have hz:=fy
   refine BB O (AY O (B3 (kp [2,16,15,0,17] O) λh0 d3 f0=>B5 (CN (.inl O) (BB O (AA O (AN (kp [17,2,16,15,0] O) (WF.nil (λaa ww hf hw=>?_))))))))
   exact⟨(B0 (i8+fx)),(B0 (bq+1)),_,_,hf.sub (kp [16,15,0,2,17] O),hw,d3,(dy.trans f0),(B1 _),(B1 _),E⟩
  refine By O (λaa ww hf hw=>?_)
  exact⟨i8,_,_,hf.sub (kp [0,2] O),hw,bc,dy,r9,E⟩
 rintro aa ww ⟨i2,cu,cv,hf,hw,ce,bo,r3,E⟩
 refine A6 ?_ hf hw
 clear hf hw ww aa
 rw[ED] at E
 refine AE (AI (AA O (C7 O O (AD DI O (AD KO O (AS BY ce O mh O Lp O ?_))))))
 have d4:=a7.mono' bo
 refine BC O d4 KA O λh3=>AA O (AN (kp [32,31,30,0,2] O) (BF (λa w=>∃(br:Int),IV B cu cv (137,[]) a w [(0,vP u 0),(2,vI br)] (Bx u 84 [.string p0_w.b.F,af,vI p0_w.b.R,ag,ah,ai,aj,ak,am,an,vI p0_w.b.U,W,Y,Z,ab,ac,vI p0_w.s.B,t,c,C,d,z,g,ae,k,p]::OO AJ 3 29 t p0_w.s.G::OS AJ 3 c p0_w.s.M::OS Bu 69 d p0_w.s.Q::OS AJ 3 z p0_w.s.O::OS AJ 3 g p0_w.s.P::OS CF 50 ae p0_w.moves::OS AJ 3 k p0_w.peaks::OS BI 60 p p0_w.sent::L) λ_ _=>AH br∧EC N p0_w br=some r) ?_ ?_))
 ·refine BT (λn3=>λa w=>∃(bp:Int) (bs:Int),IV B cu cv (137,[]) a w [(31,vI (↑p0_w.s.J.length:Int)),(30,C),(0,vP u 0),(2,vI bp),(32,vI bs)] (Bx u 84 [.string p0_w.b.F,af,vI p0_w.b.R,ag,ah,ai,aj,ak,am,an,vI p0_w.b.U,W,Y,Z,ab,ac,vI p0_w.s.B,t,c,C,d,z,g,ae,k,p]::OO AJ 3 29 t p0_w.s.G::OS AJ 3 c p0_w.s.M::OS Bu 69 d p0_w.s.Q::OS AJ 3 z p0_w.s.O::OS AJ 3 g p0_w.s.P::OS CF 50 ae p0_w.moves::OS AJ 3 k p0_w.peaks::OS BI 60 p p0_w.sent::L) λ_ _=>AH bp∧AH bs∧EA N p0_w (EC N p0_w) n3 bp bs=some r) N ?_ ?_ ?_
  ·intro aa ww hf hw
   exact⟨i2,0,_,_,hf.sub (kp [31,30,0,2,32] O),hw,ce,(Cv.refl cu cv),r3,(iq (n:=0) O),E⟩
  ·rintro aa ww ⟨_,_,_,_,_,_,_,_,_,_,E⟩
   rw[EA] at E;cases E
  rintro n3 aa ww ⟨bp,bs,h4,h5,hf,hw,bt,cw,f1,h6,E⟩
  refine A6 ?_ hf hw
  clear hf hw ww aa
  rw[EA] at E
  refine AI (BK O (AN (kp [33,31,30,0,2,32] O) (AE (AX O E (λf2 E=>?_) (λf2 E=>?_)))))
  ·refine AT (AE (BV (WF.sl (AF 2 ?_))))
   obtain⟨ca,d5,E⟩:=bd E
   refine Bz O O (d4.mono' cw) KA d5 O λh7 f3=>Ci BY bt.1 O f3 LU (λe=>by cases e) O λh8 f4=>AG (Di Q4 O bt λh9 ia d6 d7=>?_)
   obtain⟨d8,rfl,ib,ic,d9⟩:=BI.ex (f4.mono d7)
   refine IA (vs:=[vI ca.Ad,vI ca.D,d8]) (cs':=[vI ca.Ad,vI ca.D,d8]) O O O (AC O (AC O (AC d9.one FA))) LU O d6 .head O O λie bu ea=>AZ (kp [6,31,30,0,2,32] O) (CX (.inl O) bu (AA O (AD LZ O (AS CL bu O mh O CG O ?_))))
   obtain⟨f5,eb,E⟩:=bd E
   refine DF O O O Nj O (λh' o=>Fg (St.all h') ((d9.mono' ea).mono' (o.all bu.1)) eb) λf6=>?_
   have ig:=f6
   refine BB O (AY O (B3 (kp [2,31,30,0,32] O) λih ec f7=>B5 (CN (.inl O) (BB O (AA O (AN (kp [32,2,31,30,0] O) (WF.nil (λaa ww hf hw=>?_))))))))
   have ed:=ec.sel [1,1,1,1,1,1,1,1,1] 1 O
   exact⟨(B0 (bp+f5)),(B0 (bs+1)),_,_,hf.sub (kp [31,30,0,2,32] O),hw,ed,(cw.trans (d7.trans (ea.trans f7))),(B1 _),(B1 _),E⟩
  refine By O (λaa ww hf hw=>?_)
  exact⟨bp,_,_,hf.sub (kp [0,2] O),hw,bt,cw,f1,E⟩
 rintro aa ww ⟨br,ee,ii,hf,hw,bv,bw,f8,E⟩
 refine A6 ?_ hf hw
 clear hf hw ww aa
 rw[EC] at E
 refine AE (CX (.inl O) bv (AA O (C7 O O (AD DI O (AD K3 O (AS CL bv O mh O CG O ?_))))))
 obtain⟨f9,ef,E⟩:=bd E
 refine DF O O O Nj O (λh' o=>Fg (St.all h') ((bv.oslAll (mt (mt (mt (mt mh))))).mono (λb hb=>nH hb o.siz) (λb hb=>o.same b hb)) ef) λga=>?_
 have gb:=ga
 refine AY O (B3 (kp [7,0,2] O) λeg cf bx=>AI (AA O (C7 O O (AD G4 O (AD Do O (AS BY cf O mh O Gu O (BC O (bn.mono' (bo.trans (bw.trans bx))) Fy O λij=>AA O (AN (kp [54,53,7,0,2] O) (BV (BT (λn4=>λa w=>∃(aq:Int) (ar:Int) (K:Int) (ax:Value) (ap:List BA) (ay:List (List Int)) (av:List Int),IV B ee eg (137,[]) a w [(53,vI (↑p0_w.b.A.length:Int)),(0,vP u 0),(2,vI aq),(7,vI ar),(54,vI K)] (OS CF 50 ax ap::Bx u 84 [.string p0_w.b.F,af,vI p0_w.b.R,ag,ah,ai,aj,ak,am,an,vI p0_w.b.U,W,Y,Z,ab,ac,vI p0_w.s.B,t,c,C,d,z,g,ax,k,p]::OO AJ 3 29 t ay::OS AJ 3 c p0_w.s.M::OS Bu 69 d p0_w.s.Q::OS AJ 3 z av::OS AJ 3 g p0_w.s.P::OS AJ 3 k p0_w.peaks::OS BI 60 p p0_w.sent::L) λ_ _=>AH aq∧AH ar∧AH K∧C1 N p0_w n4 aq ar K ap ay av=some r) N ?_ ?_ ?_))))))))))
 ·intro aa ww hf hw
  have cx:=cf.sel [6,0,0,0,0,0,0,0,0] 0 O
  exact⟨br,f9,0,ae,p0_w.moves,p0_w.s.G,p0_w.s.O,_,_,hf.sub (kp [53,0,2,7,54] O),hw,cx,(Cv.refl ee eg),f8,gb,(iq (n:=0) O),E⟩
 ·rintro aa ww ⟨_,_,_,_,_,_,_,_,_,_,_,_,_,_,_,_,E⟩
  rw[C1] at E;cases E
 rintro n4 aa ww ⟨aq,ar,K,ax,ap,ay,av,be,bf,hf,hw,au,a2,eh,ei,ej,E⟩
 refine A6 ?_ hf hw
 clear hf hw ww aa
 rw[C1] at E
 refine AI (BK O (AN (kp [55,53,0,2,7,54] O) (AE (AX O E (λek E=>?_) (λek E=>?_)))))
 ·refine AT (AE (BF (λa w=>∃(a3:Int) (a4:Int) (bg:Value) (bh:List BA) (bi:List (List Int)) (bj:List Int),IV B be bf (137,[]) a w [(53,vI (↑p0_w.b.A.length:Int)),(0,vP u 0),(54,vI K),(2,vI a3),(7,vI a4)] (OS CF 50 bg bh::Bx u 84 [.string p0_w.b.F,af,vI p0_w.b.R,ag,ah,ai,aj,ak,am,an,vI p0_w.b.U,W,Y,Z,ab,ac,vI p0_w.s.B,t,c,C,d,z,g,bg,k,p]::OO AJ 3 29 t bi::OS AJ 3 c p0_w.s.M::OS Bu 69 d p0_w.s.Q::OS AJ 3 z bj::OS AJ 3 g p0_w.s.P::OS AJ 3 k p0_w.peaks::OS BI 60 p p0_w.sent::L) λ_ _=>AH a3∧AH a4∧FQ N K (C1 N p0_w n4) a3 a4 bh bi bj=some r) ?_ ?_))
  ·refine AI (AA O (AM O (kp [8,53,0,2,7,54] O) (AI (AM O (kp [9,8,53,0,2,7,54] O) (AE (AI (AA O (AA O (C7 O O (AD NL O (AD SL O (AS BY au O (mt mh) O CG O (BC O (aw.mono' (bo.trans (bw.trans (bx.trans a2)))) CA O λgf=>BK O (AN (kp [64,9,8,53,0,2,7,54] O) (HN (λa w=>∃(V:Int),IV B be bf (137,[]) a w [(8,vI K),(53,vI (↑p0_w.b.A.length:Int)),(0,vP u 0),(2,vI aq),(7,vI ar),(54,vI K),(9,vI V)] (OS CF 50 ax ap::Bx u 84 [.string p0_w.b.F,af,vI p0_w.b.R,ag,ah,ai,aj,ak,am,an,vI p0_w.b.U,W,Y,Z,ab,ac,vI p0_w.s.B,t,c,C,d,z,g,ax,k,p]::OO AJ 3 29 t ay::OS AJ 3 c p0_w.s.M::OS Bu 69 d p0_w.s.Q::OS AJ 3 z av::OS AJ 3 g p0_w.s.P::OS AJ 3 k p0_w.peaks::OS BI 60 p p0_w.sent::L) λ_ _=>AH V∧GW N p0_w aq ar K ap ay av (FQ N K (C1 N p0_w n4)) V=some r) ?_ ?_)))))))))))))))
   ·refine AX O E (λel E=>?_) (λel E=>?_)
    ·refine CN (.inl O) (AA O (C7 O O (AD NL O (AD SL O (AS BY au O (mt mh) O CG O (AA O ?_))))))
     obtain⟨em,cy,E⟩:=bd E
     refine Bz O O (aw.mono' (bo.trans (bw.trans (bx.trans a2)))) CA cy O λgg en=>A9 BY au.1 O en A7 O λeo=>AA O (Dk O (AA O (Dk O (Zg O O O O (AM O (kp [9,8,53,0,2,7,54] O) (WF.nil (λaa ww hf hw=>?_)))))))
     exact⟨(min (min em (B0 (1125899906842624-aq))) (B0 (1152921504606846976-ar))),_,_,hf.sub (kp [8,53,0,2,7,54,9] O),hw,au,(Cv.refl be bf),(Lx (Lx eo (B1 _)) (B1 _)),E⟩
    refine AT (WF.nil (λaa ww hf hw=>?_))
    exact⟨0,_,_,hf.sub (kp [8,53,0,2,7,54,9] O),hw,au,(Cv.refl be bf),(iq (n:=0) O),E⟩
   rintro aa ww ⟨V,gh,gi,hf,hw,az,bz,ep,E⟩
   refine A6 ?_ hf hw
   clear hf hw ww aa
   rw[GW] at E
   refine AE (AI (AA O (HO O (AN (kp [79,8,53,0,2,7,54,9] O) (AX O E (λeq E=>?_) (λeq E=>?_))))))
   ·refine By O (λaa ww hf hw=>?_)
    exact⟨aq,ar,ax,ap,ay,av,_,_,hf.sub (kp [53,0,54,2,7] O),hw,az,bz,eh,ei,E⟩
   refine AT (WF.sl (AF 13 (AA O (C7 O O (AD DI O (AD Eo O (AS BY az O (mt mh) O Hz O (AA O ?_))))))))
   obtain⟨gj,cz,E⟩:=bd E
   refine Oc (r:=AJ) az (mt (mt mh)) O O Fx cz O λgl b0=>?_
   obtain⟨er,b2,E⟩:=bd E
   refine Sj (r:=AJ) BY az (mt (mt mh)) O b2 b0 CG O λgm c0 cg=>?_
   obtain⟨b3,c1,E⟩:=bd E
   refine Vg O O cg CA c1 O λgn es fu=>A9 BY (λ_ x=>x) O es A7 O λgp=>AA O (BB O ?_)
   obtain⟨gq,b4,E⟩:=bd E
   refine Vg O O cg CA b4 O λgr gs cb=>AG ?_
   have c2:=az.pick (.tail (.tail .head))
   refine Zn (r:=AJ) (i:=K) (j:=0) (y:=(B0 (b3+V))) O O (⟨_,O,O,(B1 _)⟩:Rd _ _ AJ _ (B0 (b3+V))) b0 c0 cb b2 b4 A7 (λ_=>rfl) c2 λgt a0 ch=>AZ (kp [8,53,0,2,7,54,9] O) (WF.sl (AF 10 (AA O (C7 O O (AD DI O (AD K3 O (AS BY a0 O (mt (mt mh)) O CG O ?_)))))))
   obtain⟨gu,c3,E⟩:=bd E
   refine BU a0 (mt (mt (mt (mt (mt mh))))) O O CA c3 O λgv c4=>?_
   obtain⟨ci,c5,E⟩:=bd E
   have et:=a0.epAt (mt (mt (mt (mt (mt mh))))) c5 GM.id c4
   refine A9 BY (λ_ x=>x) O et A7 O λgw=>AA O (BB O ?_)
   obtain⟨gx,c6,E⟩:=bd E
   refine BU a0 (mt (mt (mt (mt (mt mh))))) O O CA c6 O λgy c7=>AG ?_
   obtain⟨eu,c8,E⟩:=bd E
   refine Fm (r:=AJ) (l:=av) (i:=0) (x:=eu) O O (⟨_,O,O,(B1 _)⟩:Rd _ _ AJ _ (B0 (ci+V))) c7 c8 ML.id A7 (λ_=>rfl) a0 (.tail (.tail (.tail (.tail (.tail .head))))) λgz b5 cj=>AZ (kp [8,53,0,2,7,54,9] O) (AI (AA O (AA O (BB O (AM O (kp [2,8,53,0,7,54,9] O) (AI (AA O (AA O (BB O (AM O (kp [7,2,8,53,0,54,9] O) (WF.sl (AF 6 (AA O (C7 O O (AD G4 O (AD If O (AS BY b5 O (mt (mt mh)) O LA O (BC O (bm.mono' (bo.trans (bw.trans (bx.trans (a2.trans (bz.trans (ch.trans cj))))))) Kt O λg0=>AG ?_))))))))))))))))))
   obtain⟨c9,E⟩:=Mc E
   refine Jk (r:=AJ) (zx:=0) GK O ⟨O,by unfold AH;omega⟩ O O c9 O O b5 λev g1 b6 ew=>AF 1 (AY O (AG (AZ (kp [10,7,2,8,53,0,54,9] O) (WF.sl (AF 3 (AA O (AA O ?_)))))))
   obtain⟨g2,da,E⟩:=bd E
   refine BU b6 mh O O CA da O λg3 db=>AG ?_
   obtain⟨ey,dc,E⟩:=bd E
   refine Fm (r:=AJ) (l:=(List.replicate ((↑p0_w.b.H.length:Int):Int).toNat (0:Int))) (i:=0) (x:=ey) O O (⟨_,O,O,ep⟩:Rd _ _ AJ _ V) db dc ML.id A7 (λ_=>rfl) b6 .head λck dd ez=>AZ (kp [10,7,2,8,53,0,54] O) ?_
   obtain⟨bk,ao,e0,e1⟩:=dd.pubs .head
   refine Ue (m:=[(10,ev),(7,vI (B0 (ar+V))),(2,vI (B0 (aq+V))),(8,vI K),(53,vI (↑p0_w.b.A.length:Int)),(0,vP u 0),(54,vI K)]) 14 [0] (λi v hh=>match i with|0=>v=vP u 0|1=>v=vP u 0|2=>v=vP u 0|3=>v=vP u 23|4=>v=ax|5=>v=vP u 0|6=>v=vP u 0|7=>v=vP u 16|8=>v=vP u 16|9=>v=vI p0_w.s.B∧AH p0_w.s.B|10=>v=vI K∧AH K|11=>Sl bk hh AJ v (upd (List.replicate ((↑p0_w.b.H.length:Int):Int).toNat (0:Int)) 0 V)|12=>Rd bk hh CF v (⟨p0_w.s.B,(-1),K,(-4),(upd (List.replicate ((↑p0_w.b.H.length:Int):Int).toNat (0:Int)) 0 V)⟩:BA)|13=>Sl (SN bk ck hh) hh CF v ([(⟨p0_w.s.B,(-1),K,(-4),(upd (List.replicate ((↑p0_w.b.H.length:Int):Int).toNat (0:Int)) 0 V)⟩:BA)]:List BA)∧∃ad,v= .slice (some ad) 1 1|_=>False) [[],[],[(1,120)],[(2,121)],[(3,122)],[],[(5,124)],[(6,125)],[(7,126)],[(8,127)],[],[],[(9,128),(10,129),(11,130)],[(12,131)]] [(0,119),(4,123),(13,132)] mo (by kernel_rfl) [10,7,2,8,53,0,54] O (by kernel_rfl) (by kernel_rfl) (by kernel_rfl) (kp [10,7,2,8,53,0,54] O) (λi v h1 h2 o1 o2 hr=>?_) ?_ ?_ ?_
   ·match i,hr with
     |0,hr|1,hr|2,hr|3,hr|4,hr|5,hr|6,hr|7,hr|8,hr|9,hr|10,hr=>exact hr
     |11,hr=>exact Sl.mono' hr (o2.ext λb hb=>nH (ao.1 b hb) o1.siz)
     |12,hr=>exact Rd.mono hr (o2.ext λb hb=>nH (ao.1 b hb) o1.siz)
     |13,hr=>exact⟨Sl.mono' hr.1 (SN.mono ao.1 o1 o2),hr.2⟩
     |_+14,hr=>exact hr.elim
   ·refine Qh.cons [] (by kernel_rfl) O O (by kernel_rfl) ?_ ?_
    ·intro mq hh o
     intro a hf
     exact⟨vP u 0,Oh hf O,O⟩
    exact trivial
   ·refine BP.cons O (λ_ _ _=>AF 1 (AA O (AO O))) (BP.cons O (λ_ _ _=>AF 1 (AA O (AO O))) (BP.cons O (λ_ _ _ _ e2=>by cases e2;exact AF 1 (C7 O O (AO O))) (BP.cons O (λ_ _ _ _ e3=>by cases e3;exact AF 1 (AD OL O (AO O))) (BP.cons O (λ_ _ o _ e4=>by cases e4;exact AF 1 (AS BY (o.st ao) O (mt (mt mh)) O Sy O (AO O))) (BP.cons O (λ_ _ _=>AF 1 (AA O (AO O))) (BP.cons O (λ_ _ _ _ e5=>by cases e5;exact AF 1 (C7 O O (AO O))) (BP.cons O (λ_ _ _ _ e6=>by cases e6;exact AF 1 (AD DI O (AO O))) (BP.cons O (λ_ _ _ _ e7=>by cases e7;exact AF 1 (AD H0 O (AO O))) (BP.cons O (λ_ _ o _ e8=>by cases e8;exact AF 1 (AS BY (o.st ao) O (mt (mt mh)) O A7 O (AO ⟨O,a6⟩))) (BP.cons O (λ_ _ _=>AF 1 (AA O (AO ⟨O,ej⟩))) (BP.cons O (λ_ _ o=>AF 1 (AA O (AO (e1.mono' (o.ext ao.1))))) ?_)))))))))))
    refine BP.cons O ?_ ?_
    ·intro mq hh o
     intro g4 e9 g5 fa fb bl
     have fc:=o.st ao
     obtain⟨rfl,fd⟩:=e9
     obtain⟨rfl,fe⟩:=fa
     have bl:Sl _ _ AJ fb (upd (List.replicate ((↑p0_w.b.H.length:Int):Int).toNat (0:Int)) 0 V):=bl
     refine AF 1 ?_
     obtain⟨de,cc,rfl,g6⟩:=(bl).len
     exact Ik (cs:=[vI p0_w.s.B,vI (-1),vI K,vI (-4),(.slice de (upd (List.replicate ((↑p0_w.b.H.length:Int):Int).toNat (0:Int)) 0 V).length cc)]) Z6 O O O (AO (CF.mk (x:=(⟨p0_w.s.B,(-1),K,(-4),(upd (List.replicate ((↑p0_w.b.H.length:Int):Int).toNat (0:Int)) 0 V)⟩:BA)) fd (iq (n:=(-1)) O) fe (iq (n:=(-4)) O) bl))
    refine BP.cons O ?_ ?_
    ·intro mq hh o
     intro ff a5
     have fc:=SN.st ao o
     have a5:=Rd.mono (S':=(SN bk ck hh)) a5 ⟨λb hb=> .inl hb,λ_ _=>rfl,nJ _⟩
     have a5:Rd _ _ CF ff (⟨p0_w.s.B,(-1),K,(-4),(upd (List.replicate ((↑p0_w.b.H.length:Int):Int).toNat (0:Int)) 0 V)⟩:BA):=a5
     have gc:=fc.fz
     obtain⟨g7,rfl,fg,fh,fi,fj,cl⟩:=CF.ex a5
     obtain⟨df,cd,rfl,g8⟩:=(cl).len
     refine Em (cs:=[vI ((⟨p0_w.s.B,(-1),K,(-4),(upd (List.replicate ((↑p0_w.b.H.length:Int):Int).toNat (0:Int)) 0 V)⟩:BA).B),vI ((⟨p0_w.s.B,(-1),K,(-4),(upd (List.replicate ((↑p0_w.b.H.length:Int):Int).toNat (0:Int)) 0 V)⟩:BA).I),vI ((⟨p0_w.s.B,(-1),K,(-4),(upd (List.replicate ((↑p0_w.b.H.length:Int):Int).toNat (0:Int)) 0 V)⟩:BA).D),vI ((⟨p0_w.s.B,(-1),K,(-4),(upd (List.replicate ((↑p0_w.b.H.length:Int):Int).toNat (0:Int)) 0 V)⟩:BA).Bf),(.slice df ((⟨p0_w.s.B,(-1),K,(-4),(upd (List.replicate ((↑p0_w.b.H.length:Int):Int).toNat (0:Int)) 0 V)⟩:BA).X).length cd)]) VV O O O O O O O gc λg9 ha dg cm=>?_
     have fk:=cl.mono' cm
     have dh:=dg.bxos (r:=CF) (l:=([(⟨p0_w.s.B,(-1),K,(-4),(upd (List.replicate ((↑p0_w.b.H.length:Int):Int).toNat (0:Int)) 0 V)⟩:BA)]:List BA)) .head ⟨_,_,O,⟨_,O,fg,fh,fi,fj,fk⟩,O⟩ (by simp [maxLen])
     obtain⟨hc,di,fl,fm⟩:=dh.pubs .head
     have b7:=Fz.done o (cm.trans fl) di
     exact DV b7.1 ⟨Sl.mono' fm b7.2,_,O⟩
    exact trivial
   intro hd cn he fn hg fo hi b8
   have dj:=SN.st ao cn
   cases fn
   cases fo
   obtain⟨b8,gd,rfl⟩:=b8
   obtain⟨dk,E⟩:=Mc E
   refine J3 (r:=CF) (l:=ap) (xs:=([(⟨p0_w.s.B,(-1),K,(-4),(upd (List.replicate ((↑p0_w.b.H.length:Int):Int).toNat (0:Int)) 0 V)⟩:BA)]:List BA)) O O VV O (Sl.src b8) O dk O dj (λ_=>(.tail .head)) λhj hk b9 fp=>AF 2 (C7 O O (AD OL O (AG ?_)))
   obtain⟨a8,a1,rfl,hl⟩:=b9.oslen (mt mh)
   refine Il (vs:=[(.slice a8 (ap++([(⟨p0_w.s.B,(-1),K,(-4),(upd (List.replicate ((↑p0_w.b.H.length:Int):Int).toNat (0:Int)) 0 V)⟩:BA)]:List BA)).length a1)]) (cs':=[.string p0_w.b.F,af,vI p0_w.b.R,ag,ah,ai,aj,ak,am,an,vI p0_w.b.U,W,Y,Z,ab,ac,vI p0_w.s.B,t,c,C,d,z,g,(.slice a8 (ap++([(⟨p0_w.s.B,(-1),K,(-4),(upd (List.replicate ((↑p0_w.b.H.length:Int):Int).toNat (0:Int)) 0 V)⟩:BA)]:List BA)).length a1),k,p]) O O O O Sy O b9 (.tail (.tail .head)) O O λhm dl fq=>AZ (kp [7,2,53,0,54] O) (WF.nil (λaa ww hf hw=>?_))
   have dm:=dl.sel [1,1,0,0,0,0,0,0,0] 0 O
   exact⟨(B0 (aq+V)),(B0 (ar+V)),(.slice a8 (ap++([(⟨p0_w.s.B,(-1),K,(-4),(upd (List.replicate ((↑p0_w.b.H.length:Int):Int).toNat (0:Int)) 0 V)⟩:BA)]:List BA)).length a1),(ap++([(⟨p0_w.s.B,(-1),K,(-4),(upd (List.replicate ((↑p0_w.b.H.length:Int):Int).toNat (0:Int)) 0 V)⟩:BA)]:List BA)),(upd ay K (upd er 0 (B0 (b3+V)))),(upd av 0 (B0 (ci+V))),_,_,hf.sub (kp [53,0,54,2,7] O),hw,dm,(bz.trans (ch.trans (cj.trans (ew.trans (ez.trans (e0.trans ((SN.ext ao.1 cn).trans (fp.trans fq)))))))),(B1 _),(B1 _),E⟩
  rintro aa ww ⟨a3,a4,bg,bh,bi,bj,hn,ho,hf,hw,dn,fr,fs,ft,E⟩
  refine A6 ?_ hf hw
  clear hf hw ww aa
  rw[FQ] at E
  refine CN (.inl O) (BB O (AA O (AN (kp [54,53,0,2,7] O) (WF.nil (λaa ww hf hw=>?_)))))
  exact⟨a3,a4,(B0 (K+1)),bg,bh,bi,bj,_,_,hf.sub (kp [53,0,2,7,54] O),hw,dn,(a2.trans fr),fs,ft,(B1 _),E⟩
 refine LN O (WF.nil (λaa ww hf hw=>?_))
 have dp:=au.sel [1,1,1,1,1,1,0,0,0] 0 O
 cases E
 exact Kn hf O hw Km O (bo.trans (bw.trans (bx.trans a2))) ⟨_,_,_,O,dp⟩
def MD (hs:St S L h) {g:Value}{c:(List Int)}(m:Sl S h AJ g c) {b:Value}{d:(List Int)}(o:Sl S h AJ b d) {r:(List Int)}(E:Gk N c d=some r):
 C5 prog 16 #[g,b] S h (λv S' h'=>St S' (OS AJ 3 v r::L) h'):=by
 refine Bv (l:=[g,b]) 35 func16 O ntmps16 O λB=>?_
 rw[Gk] at E
 refine AI (AM O (kp [0,1] O) (WF.sl (AF 5 (AA O (BC O m CA O λb1=>AA O (BC O o CA O λb2=>QU O O O (AG ?_)))))))
 obtain⟨ab,E⟩:=Mc E
 refine Jk (r:=AJ) (zx:=0) GK O ⟨O,by unfold AH;omega⟩ O O ab O O hs λv4 h5 ac e7=>AF 1 (AY O (AG (AZ (kp [5,0,1] O) (WF.sl (AF 2 (AA O (AA O (AG (Sm (r:=AJ) (l:=(List.replicate ((max (↑c.length:Int) (↑d.length:Int)):Int).toNat (0:Int))) (xs:=c) O O CA (Sl.src (m.mono' e7)) O ac .head λh9 F G=>AZ (kp [5,1] O) (AE (AI (AA O ?_))))))))))))
 have H:=o.mono' (e7.trans G)
 refine BC O H CA O λao=>AA O (AN (kp [19,18,17,5] O) (BF (λa w=>∃(C:List Int),IV B S h9 (35,[]) a w [(5,v4)] (OS AJ 3 v4 C::L) λ_ _=>HT N C=some r) ?_ ?_))
 ·refine BT (λn1=>λa w=>∃(k:Int) (s:List Int),IV B S h9 (35,[]) a w [(18,vI (↑d.length:Int)),(17,b),(5,v4),(19,vI k)] (OS AJ 3 v4 s::L) λ_ _=>AH k∧Fi N d (HT N) n1 k s=some r) N ?_ ?_ ?_
  ·intro y z t u
   exact⟨0,(NO (List.replicate ((max (↑c.length:Int) (↑d.length:Int)):Int).toNat (0:Int)) c),_,_,t.sub (kp [18,17,5,19] O),u,F,(Cv.refl S h9),(iq (n:=0) O),E⟩
  ·rintro y z ⟨_,_,_,_,_,_,_,_,_,E⟩
   rw[Fi] at E;cases E
  rintro n1 y z ⟨k,s,ap,aq,t,u,j,D,ar,E⟩
  refine A6 ?_ t u
  clear t u z y
  rw[Fi] at E
  refine AI (BK O (AN (kp [20,18,17,5,19] O) (AE (AX O E (λad E=>?_) (λad E=>?_)))))
  ·refine AT (AE (BV (AI (AA O ?_))))
   obtain⟨au,I,E⟩:=bd E
   refine Bz O O (H.mono' D) CA I O λav ae=>A9 BY j.1 O ae A7 O λaf=>AY O (AM O (kp [7,6,18,17,5,19] O) (FO (AF 7 (AA O (AA O (AA O (AA O ?_)))))))
   obtain⟨aw,J,E⟩:=bd E
   refine BU j mh O O CA J O λax K=>?_
   obtain⟨ay,M,E⟩:=bd E
   have ag:=j.epAt mh M GM.id K
   refine A9 BY (λ_ x=>x) O ag A7 O λah=>AA O (AG ?_)
   obtain⟨Q,U,E⟩:=bd E
   refine CJ O O O Rb O j (Iy (St.all _) ah af U) λaz a0 a1 A ai a2 p=>?_
   obtain⟨rfl,aj,an⟩:=p
   refine AF 1 ?_
   obtain⟨a3,V,E⟩:=bd E
   refine BU A mh O O CA V O λa4 W=>AG ?_
   obtain⟨ak,X,E⟩:=bd E
   refine Fm (r:=AJ) (l:=s) (i:=k) (x:=ak) O O (⟨_,O,O,aj⟩:Rd _ _ AJ _ Q) W X ML.id A7 (λ_=>rfl) A .head λa5 Y al=>AZ (kp [18,17,5,19] O) (B5 (CN (.inl O) (BB O (AA O (AN (kp [19,18,17,5] O) (WF.nil (λy z t u=>?_)))))))
   exact⟨(B0 (k+1)),(upd s k Q),_,_,t.sub (kp [18,17,5,19] O),u,Y,(D.trans (ai.trans al)),(B1 _),E⟩
  refine By O (λy z t u=>?_)
  exact⟨s,_,_,t.sub (kp [5] O),u,j,D,E⟩
 rintro y z ⟨C,a6,a7,t,u,Z,am,E⟩
 refine A6 ?_ t u
 clear t u z y
 rw[HT] at E
 refine AI (AA O (AM O (kp [4] O) (A5 (λy z t u=>?_))))
 cases E
 exact Ee t u O O (e7.trans (G.trans am)) Z
def Qm (hs:St S L h) {j:Value}{C:(List BE)}(ai:Sl S h BI j C) {c:Int}(bg:AH c) {t:Int}(M:AH t) {u:Int}(Q:AH u) {r:(List (List Int))×(List BE)}(E:Kb N C c t u=some r):
 C5 prog 60 #[j,vI c,vI t,vI u] S h (λv S' h'=>∃cj ck:Value,v= .tuple #[cj,ck]∧St S' (OS (BW.sl AJ) 29 cj r.1::OS BI 60 ck r.2::L) h'):=by
 refine Bv (l:=[j,vI c,vI t,vI u]) 79 func60 O ntmps60 O λB=>?_
 rw[Kb] at E
 refine AI (AY O (AM O (kp [0,1,2,3] O) (AE (CX (.inl O) hs (AA O ?_)))))
 obtain⟨y1,ee,E⟩:=bd E
 refine DF O O O VY O (λh' o=>Jd (St.all h') M (iq (n:=0) O) (iq (n:=64) O) ee) λr2=>?_
 have r3:=r2
 refine AY O (B3 (kp [2,0,1,3] O) λh4 ef e6=>AE (CX (.inl O) ef (AA O ?_)))
 obtain⟨y7,eg,E⟩:=bd E
 refine DF O O O VY O (λh' o=>Jd (St.all h') Q (iq (n:=0) O) (iq (n:=16) O) eg) λr8=>?_
 have r9:=r8
 refine AY O (B3 (kp [3,2,0,1] O) λf1 cl cm=>WF.sl (AF 1 (AA O (AG ?_))))
 obtain⟨cn,E⟩:=Mc E
 refine Jk (r:=(BW.sl AJ)) (zx:=[]) X9 O ⟨_,O,.inl ⟨O,O⟩⟩ O O cn O O cl λA bh a5 co=>AF 1 (AY O (AG (AZ (kp [8,3,2,0,1] O) (AE (AI (AA O (MO a5 mh O Fx O λf2=>AA O (AN (kp [21,20,8,3,2,0,1] O) (BF (λa w=>∃(ay:List (List Int)),IV B S bh (79,[]) a w [(8,A),(2,vI y1),(0,j),(1,vI c)] (OS (BW.sl AJ) 29 A ay::L) λ_ _=>GU N C c y1 ay=some r) ?_ ?_)))))))))
 ·refine BT (λn1=>λa w=>∃(ae:Int) (ak:List (List Int)),IV B S bh (79,[]) a w [(20,vI (↑(List.replicate (y1:Int).toNat ([]:(List Int))).length:Int)),(8,A),(3,vI y7),(2,vI y1),(0,j),(1,vI c),(21,vI ae)] (OS (BW.sl AJ) 29 A ak::L) λ_ _=>AH ae∧GT N y1 y7 (GU N C c y1) n1 ae ak=some r) N ?_ ?_ ?_
  ·intro I J z F
   exact⟨0,(List.replicate (y1:Int).toNat ([]:(List Int))),_,_,z.sub (kp [20,8,3,2,0,1,21] O),F,a5,(Cv.refl S bh),(iq (n:=0) O),E⟩
  ·rintro I J ⟨_,_,_,_,_,_,_,_,_,E⟩
   rw[GT] at E;cases E
  rintro n1 I J ⟨ae,ak,f3,f4,z,F,a6,cp,f5,E⟩
  refine A6 ?_ z F
  clear z F J I
  rw[GT] at E
  refine AI (BK O (AN (kp [22,20,8,3,2,0,1,21] O) (AE (AX O E (λeh E=>?_) (λeh E=>?_)))))
  ·refine AT (AE (BV (AI (AA O (AM O (kp [10,20,8,3,2,0,1,21] O) (FO (AF 3 (AA O (AA O (AA O (AG ?_)))))))))))
   obtain⟨cq,E⟩:=Mc E
   refine Jk (r:=AJ) (zx:=0) GK O ⟨O,by unfold AH;omega⟩ O O cq O O a6 λf6 f7 a7 ei=>AF 1 ?_
   obtain⟨f8,cr,E⟩:=bd E
   refine BU a7 (mt mh) O O Fx cr O λf9 ct=>AG ?_
   obtain⟨ej,cu,E⟩:=bd E
   obtain⟨ga,cv,ek,el⟩:=a7.pubs .head
   refine Fm (r:=(BW.sl AJ)) (l:=ak) (i:=ae) (x:=ej) O O (NR el) ct cu ML.id CG (λ_=>rfl) cv .head λgb cw em=>AZ (kp [20,8,3,2,0,1,21] O) (B5 (CN (.inl O) (BB O (AA O (AN (kp [21,20,8,3,2,0,1] O) (WF.nil (λI J z F=>?_)))))))
   exact⟨(B0 (ae+1)),(upd ak ae (List.replicate (y7:Int).toNat (0:Int))),_,_,z.sub (kp [20,8,3,2,0,1,21] O),F,cw,(cp.trans (ei.trans (ek.trans em))),(B1 _),E⟩
  refine By O (λI J z F=>?_)
  exact⟨ak,_,_,z.sub (kp [8,2,0,1] O),F,a6,cp,E⟩
 rintro I J ⟨ay,bi,bj,z,F,cx,cy,E⟩
 refine A6 ?_ z F
 clear z F J I
 rw[GU] at E
 refine AI (AA O ?_)
 have a8:=e6.trans (cm.trans (co.trans cy))
 refine Zd O O O (ai.mono' a8) KA O λa9=>?_
 have cz:=cx.zs BI 60 a9
 refine AM O (kp [9,8,2,0,1] O) (AE (AI (AA O ?_)))
 have c0:=ai.mono' a8
 refine BC O c0 KA O λgc=>AA O (AN (kp [34,33,32,9,8,2,1] O) (BF (λa w=>∃(bk:Value) (bl:List BE) (bm:List (List Int)),IV B bi bj (79,[]) a w [(8,A),(9,bk)] (OS BI 60 bk bl::OS (BW.sl AJ) 29 A bm::L) λ_ _=>Hi N bl bm=some r) ?_ ?_))
 ·refine BT (λn3=>λa w=>∃(V:Value) (af:List BE) (U:Int) (ag:List (List Int)),IV B bi bj (79,[]) a w [(33,vI (↑C.length:Int)),(32,j),(8,A),(2,vI y1),(1,vI c),(9,V),(34,vI U)] (OS BI 60 V af::OS (BW.sl AJ) 29 A ag::L) λ_ _=>AH U∧Fh N C c y1 (Hi N) n3 af U ag=some r) N ?_ ?_ ?_
  ·intro I J z F
   exact⟨(.slice a9 0 0),([]:List BE),0,ay,_,_,z.sub (kp [33,32,8,2,1,9,34] O),F,cz,(Cv.refl bi bj),(iq (n:=0) O),E⟩
  ·rintro I J ⟨_,_,_,_,_,_,_,_,_,_,_,E⟩
   rw[Fh] at E;cases E
  rintro n3 I J ⟨V,af,U,ag,G,en,z,F,am,bn,gd,E⟩
  refine A6 ?_ z F
  clear z F J I
  rw[Fh] at E
  refine AI (BK O (AN (kp [35,33,32,8,2,1,9,34] O) (AE (AX O E (λeo E=>?_) (λeo E=>?_)))))
  ·refine AT (AE (BF (λa w=>∃(az:Value) (a0:List BE) (a1:List (List Int)),IV B G en (79,[]) a w [(33,vI (↑C.length:Int)),(32,j),(8,A),(2,vI y1),(1,vI c),(34,vI U),(9,az)] (OS BI 60 az a0::OS (BW.sl AJ) 29 A a1::L) λ_ _=>I9 N U (Fh N C c y1 (Hi N) n3) a0 a1=some r) ?_ ?_))
   ·refine WF.sl (AF 2 ?_)
    obtain⟨g,c1,E⟩:=bd E
    refine Bz O O (c0.mono' bn) KA c1 O λge ep=>Ci BY am.1 O ep LU (λe=>by cases e) O λgf eq=>AG (Di Q4 O am λW gg c2 bo=>?_)
    obtain⟨c3,rfl,er,bp,bq⟩:=BI.ex (eq.mono bo)
    refine IA (vs:=[vI g.Ad,vI g.D,c3]) (cs':=[vI g.Ad,vI g.D,c3]) O O O (AC O (AC O (AC bq.one FA))) LU O c2 .head O O λah d a2=>AZ (kp [12,33,32,8,2,1,9,34] O) (AI (AD OT O (AS BY d O mh O A7 O (AA O (HO O (AA O (AW 4 46 (.bool ((decide (g.Ad≤c))&&(decide (0≤g.D)))) ?_ ?_)))))))
    ·cases gh:(decide (g.Ad≤c))
     ·exact A3 O O
     exact AB O (AD La O (AB O (AS BY d O mh O A7 O (AB O (HQ O (AL O (AV O)))))))
    refine AA O (AW 5 52 (.bool (((decide (g.Ad≤c))&&(decide (0≤g.D)))&&(decide (g.D<y1)))) ?_ ?_)
    ·cases gi:((decide (g.Ad≤c))&&(decide (0≤g.D)))
     ·exact A3 O O
     exact AB O (AD La O (AB O (AS BY d O mh O A7 O (AB O (AA O (AB O (BK O (AL O (AV O)))))))))
    refine AN (kp [52,12,33,32,8,2,1,9,34] O) (AX O E (λc4 E=>?_) (λc4 E=>?_))
    ·obtain ⟨ev,br,E⟩:=bd E
     obtain⟨ba,bs,E⟩:=bd E
     obtain⟨an,bt,E⟩:=bd E
     obtain⟨ew,bu,E⟩:=bd E
     refine MV (m:=[(12,vP W 0),(33,vI (↑C.length:Int)),(32,j),(8,A),(2,vI y1),(1,vI c),(9,V),(34,vI U)]) 12 (λi v K=>match i with|0=>v=A|1=>v=vP W 1|2=>v=vI g.D∧AH g.D|3=>v=A|4=>v=vP W 1|5=>v=vI g.D∧AH g.D|6=>EP A (g.D.toNat*((BW.sl AJ)).sz+0) v|7=>Sl G K AJ v ba|8=>v=vP W 2|9=>Sl G K AJ v g.X|10=>Sl (SN G ah K) K AJ v an|11=>EP A (g.D.toNat*((BW.sl AJ)).sz+0) v|_=>False) [[],[],[(1,54)],[],[],[(4,57)],[(3,56),(5,58)],[(6,59)],[],[(8,61)],[(7,60),(9,62)],[(0,53),(2,55)]] [(10,63),(11,64)] mo (by kernel_rfl) [12,33,32,8,2,1,9,34] O (by kernel_rfl) (by kernel_rfl) (by kernel_rfl) (kp [12,33,32,8,2,1,9,34] O) (λi v h1 h2 o1 o2 y=>?_) ?_ ?_
     ·match i,y with
       |0,y|1,y|2,y|3,y|4,y|5,y|6,y|8,y|11,y=>exact y
       |7,y|9,y=>exact Sl.mono' y (o2.ext λb hb=>nH (d.1 b hb) o1.siz)
       |10,y=>exact Sl.mono' y (SN.mono d.1 o1 o2)
       |_+12,y=>exact y.elim
     ·refine BP.cons O (λ_ _ _=>AF 1 (AA O (AO O))) (BP.cons O (λ_ _ _=>AF 1 (AD La O (AO O))) (BP.cons O (λ_ _ o _ c5=>by cases c5;exact AF 1 (AS BY (o.st d) O mh O A7 O (AO ⟨O,bp⟩))) (BP.cons O (λ_ _ _=>AF 1 (AA O (AO O))) (BP.cons O (λ_ _ _=>AF 1 (AD La O (AO O))) (BP.cons O (λ_ _ o _ c6=>by cases c6;exact AF 1 (AS BY (o.st d) O mh O A7 O (AO ⟨O,bp⟩))) (BP.cons O (λ_ _ o=>by intro ey c7 ez c8;cases c7;obtain ⟨rfl,e0⟩:=c8;exact AF 1 (BU (o.st d) (mt (mt mh)) O O Fx br O λe1 bv=>AO bv)) ?_))))))
      refine BP.cons O ?_ ?_
      ·intro mq K o
       intro e2 c9
       have Y:=o.st d
       refine AF 1 ?_
       have da:=Y.epAt (mt (mt mh)) bs GM.id c9
       exact BG BY (λ_ x=>x) O da CG O λe3 db=>AO db
      refine BP.cons O (λ_ _ _=>AF 1 (AD LZ O (AO O))) (BP.cons O (λ_ _ o _ dc=>by cases dc;exact AF 1 (AS BY (o.st d) O mh O CG O (AO (bq.mono' (a2.trans (o.ext d.1)))))) ?_)
      refine BP.cons O ?_ ?_
      ·intro mq K o
       intro dd Z de ab
       have Y:=SN.st d o
       have Z:=Sl.mono' (S':=(SN G ah K)) Z ⟨λb hb=> .inl hb,λ_ _=>rfl,nJ _⟩
       have Z:Sl _ _ AJ dd ba:=Z
       have ab:=Sl.mono' (S':=(SN G ah K)) ab ⟨λb hb=> .inl hb,λ_ _=>rfl,nJ _⟩
       have ab:Sl _ _ AJ de g.X:=ab
       have H:=Y.fz
       refine CJ O O O YK O H (MD (St.all _) (Z.mono (λb hb=>H.1 b hb) (λ_ _=>rfl)) (ab.mono (λb hb=>H.1 b hb) (λ_ _=>rfl)) bt) λe4 e5 e7 es df dg p=>?_
       have bw:=p
       have ao:=H.join dg bw ⟨OS.flat (λ{_ _ _ _ _ _} k=>k),trivial⟩
       simp only[oG,nX] at ao
       obtain⟨e8,bx,dh,di⟩:=ao.pubs .head
       have ap:=Fz.done o (df.trans dh) bx
       exact DV ap.1 (Sl.mono' di ap.2)
      exact BP.cons O (λ_ _ o=>by intro e9 dj fa dk;cases dj;obtain ⟨rfl,fb⟩:=dk;exact AF 1 (BU (o.st d) (mt (mt mh)) O O Fx bu O λfc bz=>AO bz)) trivial
     intro fd bb dl aq fe dm
     have b0:=SN.st d bb
     have aq:Sl _ _ AJ dl an:=aq
     obtain⟨dn,b1,E⟩:=bd E
     refine Fm (r:=(BW.sl AJ)) (l:=ag) (i:=g.D) (x:=dn) O O (NR aq) dm b1 ML.id CG (λ_=>rfl) b0 (.tail (.tail .head)) λff b2 dp=>AZ (kp [33,32,8,2,1,9,34] O) (WF.nil (λI J z F=>?_))
     have b3:=b2.sel [1,1] 1 O
     exact⟨V,af,(upd ag g.D an),_,_,z.sub (kp [33,32,8,2,1,34,9] O),F,b3,(bo.trans (a2.trans ((SN.ext d.1 bb).trans dp))),E⟩
    obtain⟨s,b4,E⟩:=bd E
    refine MV (m:=[(12,vP W 0),(33,vI (↑C.length:Int)),(32,j),(8,A),(2,vI y1),(1,vI c),(9,V),(34,vI U)]) 10 (λi v K=>match i with|0=>v=V|1=>v=vP W 0|2=>v=vI g.Ad∧AH g.Ad|3=>v=vP W 1|4=>v=vI g.D∧AH g.D|5=>v=vP W 2|6=>Sl G K AJ v g.X|7=>Sl (SN G ah K) K AJ v s|8=>Rd (SN G ah K) K BI v ({ g with X:=s}:BE)|9=>Sl (SN G ah K) K BI v ([({ g with X:=s}:BE)]:List BE)∧∃ad,v= .slice (some ad) 1 1|_=>False) [[],[],[(1,66)],[],[(3,68)],[],[(5,70)],[(6,71)],[(2,67),(4,69),(7,72)],[(8,73)]] [(0,65),(9,74)] mo (by kernel_rfl) [12,33,32,8,2,1,9,34] O (by kernel_rfl) (by kernel_rfl) (by kernel_rfl) (kp [12,33,32,8,2,1,9,34] O) (λi v h1 h2 o1 o2 y=>?_) ?_ ?_
    ·match i,y with
      |0,y|1,y|2,y|3,y|4,y|5,y=>exact y
      |6,y=>exact Sl.mono' y (o2.ext λb hb=>nH (d.1 b hb) o1.siz)
      |7,y=>exact Sl.mono' y (SN.mono d.1 o1 o2)
      |8,y=>exact Rd.mono y (SN.mono d.1 o1 o2)
      |9,y=>exact⟨Sl.mono' y.1 (SN.mono d.1 o1 o2),y.2⟩
      |_+10,y=>exact y.elim
    ·refine BP.cons O (λ_ _ _=>AF 1 (AA O (AO O))) (BP.cons O (λ_ _ _=>AF 1 (AD OT O (AO O))) (BP.cons O (λ_ _ o _ dq=>by cases dq;exact AF 1 (AS BY (o.st d) O mh O A7 O (AO ⟨O,er⟩))) (BP.cons O (λ_ _ _=>AF 1 (AD La O (AO O))) (BP.cons O (λ_ _ o _ dr=>by cases dr;exact AF 1 (AS BY (o.st d) O mh O A7 O (AO ⟨O,bp⟩))) (BP.cons O (λ_ _ _=>AF 1 (AD LZ O (AO O))) (BP.cons O (λ_ _ o _ ds=>by cases ds;exact AF 1 (AS BY (o.st d) O mh O CG O (AO (bq.mono' (a2.trans (o.ext d.1)))))) ?_))))))
     refine BP.cons O ?_ ?_
     ·intro mq K o
      intro dt ac
      have Y:=SN.st d o
      have ac:=Sl.mono' (S':=(SN G ah K)) ac ⟨λb hb=> .inl hb,λ_ _=>rfl,nJ _⟩
      have ac:Sl _ _ AJ dt g.X:=ac
      have H:=Y.fz
      refine CJ O O O QS O H (D2 (St.all _) (ac.mono (λb hb=>H.1 b hb) (λ_ _=>rfl)) b4) λfg fh fi et du dv p=>?_
      have b5:=p
      have ar:=H.join dv b5 ⟨OS.flat (λ{_ _ _ _ _ _} k=>k),trivial⟩
      simp only[oG,nX] at ar
      obtain⟨fj,b6,dw,dx⟩:=ar.pubs .head
      have au:=Fz.done o (du.trans dw) b6
      exact DV au.1 (Sl.mono' dx au.2)
     refine BP.cons O ?_ ?_
     ·intro mq K o
      intro fk dy fl dz d0 aj
      have Y:=SN.st d o
      obtain⟨rfl,d1⟩:=dy
      obtain⟨rfl,d2⟩:=dz
      have aj:Sl _ _ AJ d0 s:=aj
      refine AF 1 ?_
      obtain⟨b7,a3,rfl,fm⟩:=(aj).len
      exact Ik (cs:=[vI g.Ad,vI g.D,(.slice b7 s.length a3)]) Z5 O O O (AO (BI.mk (x:=({ g with X:=s}:BE)) d1 d2 aj))
     refine BP.cons O ?_ ?_
     ·intro mq K o
      intro d3 av
      have Y:=SN.st d o
      have av:Rd _ _ BI d3 ({ g with X:=s}:BE):=av
      have H:=Y.fz
      obtain⟨fn,rfl,d4,d5,bc⟩:=BI.ex av
      obtain⟨b8,a4,rfl,fo⟩:=(bc).len
      refine Em (cs:=[vI (({ g with X:=s}:BE).Ad),vI (({ g with X:=s}:BE).D),(.slice b8 (({ g with X:=s}:BE).X).length a4)]) RW O O O O O O O H λfp fq b9 be=>?_
      have d6:=bc.mono' be
      have ca:=b9.bxos (r:=BI) (l:=([({ g with X:=s}:BE)]:List BE)) .head ⟨_,_,O,⟨_,O,d4,d5,d6⟩,O⟩ (by simp [maxLen])
      obtain⟨fr,cb,d7,d8⟩:=ca.pubs .head
      have aw:=Fz.done o (be.trans d7) cb
      exact DV aw.1 ⟨Sl.mono' d8 aw.2,_,O⟩
     exact trivial
    intro fs bf ft d9 fu ax
    have cc:=SN.st d bf
    cases d9
    obtain⟨ax,eu,rfl⟩:=ax
    obtain⟨cd,E⟩:=Mc E
    refine J3 (r:=BI) (l:=af) (xs:=([({ g with X:=s}:BE)]:List BE)) O O RW O (Sl.src ax) O cd O cc (λ_=>(.tail .head)) λea fv ce eb=>AF 1 (AY O (AG (AZ (kp [9,33,32,8,2,1,34] O) (WF.nil (λI J z F=>?_)))))
    have cf:=ce.sel [1,1] 1 O
    exact⟨ea,(af++([({ g with X:=s}:BE)]:List BE)),ag,_,_,z.sub (kp [33,32,8,2,1,34,9] O),F,cf,(bo.trans (a2.trans ((SN.ext d.1 bf).trans eb))),E⟩
   rintro I J ⟨az,a0,a1,fw,fx,z,F,cg,ec,E⟩
   refine A6 ?_ z F
   clear z F J I
   rw[I9] at E
   refine CN (.inl O) (BB O (AA O (AN (kp [34,33,32,8,2,1,9] O) (WF.nil (λI J z F=>?_)))))
   exact⟨az,a0,(B0 (U+1)),a1,_,_,z.sub (kp [33,32,8,2,1,9,34] O),F,cg,(bn.trans ec),(B1 _),E⟩
  refine By O (λI J z F=>?_)
  exact⟨V,af,ag,_,_,z.sub (kp [8,9] O),F,am,bn,E⟩
 rintro I J ⟨bk,bl,bm,fy,f0,z,F,ch,ed,E⟩
 refine A6 ?_ z F
 clear z F J I
 rw[Hi] at E
 refine AI (AA O (AA O (AY O (AM O (kp [9,8] O) (A5 (λI J z F=>?_))))))
 have ci:=ch.sel [1,0] 0 O
 cases E
 exact Kn z O F (Ix (JP z (v:=_) O) (Ix (JP z (v:=_) O) Km)) O (e6.trans (cm.trans (co.trans (cy.trans ed)))) ⟨_,_,O,ci⟩
end Go.Proofs.YtblcgjadhemlbaaGreat
