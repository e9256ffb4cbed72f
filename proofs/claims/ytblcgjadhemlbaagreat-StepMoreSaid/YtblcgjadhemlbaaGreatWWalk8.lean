import Derived.Test.YtblcgjadhemlbaaGreatWWalk7
namespace Go.Proofs.YtblcgjadhemlbaaGreat
set_option linter.all false
open Go.RowKit
open Go.Proofs.Tryz
set_option maxRecDepth 10000
set_option maxHeartbeats 2000000
variable {N:Nat}{S:Nat→Prop}{L:List HP}{h:BM}
def OH {u:Nat}{p0_w:AX}{af:Value}{ag:Value}{ah:Value}{ai:Value}{aj:Value}{ak:Value}{am:Value}{an:Value}{W:Value}{Y:Value}{Z:Value}{ab:Value}{ac:Value}{t:Value}{c:Value}{I:Value}{d:Value}{z:Value}{g:Value}{ae:Value}{k:Value}{p:Value}(hs:St S (Bx u 84 [.string p0_w.b.H,af,vI p0_w.b.T,ag,ah,ai,aj,ak,am,an,vI p0_w.b.V,W,Y,Z,ab,ac,vI p0_w.s.D,t,c,I,d,z,g,ae,k,p]::OO AJ 3 29 t p0_w.s.F::OS AJ 3 c p0_w.s.O::OS Bz 69 d p0_w.s.P::OS AJ 3 z p0_w.s.S::OS AJ 3 g p0_w.s.U::OS CJ 50 ae p0_w.moves::OS AJ 3 k p0_w.peaks::OS BJ 60 p p0_w.sent::L) h) (dq:p0_w.b.H.size≤maxLen) (bm:Sl S h BZ.str af p0_w.b.J) (dr:AH p0_w.b.T) (bn:Sl S h Cw ag p0_w.b.A) (ds:Sl S h Ct ah p0_w.b.E) (dt:Sl S h HL ai p0_w.b.Am) (du:Sl S h Fc aj p0_w.b.Au) (dv:Sl S h HN ak p0_w.b.Av) (dw:Sl S h Dy am p0_w.b.Ay) (dx:Sl S h AJ an p0_w.b.Ax) (co:AH p0_w.b.V) (aw:Sl S h AJ W p0_w.in_.X) (cp:Sl S h Gc Y p0_w.in_.Ap) (cq:Sl S h JX Z p0_w.in_.At) (cr:Sl S h Gd ab p0_w.in_.Ad) (ct:Sl S h HM ac p0_w.in_.Ba) (a6:AH p0_w.s.D) (a7:Sl S h BJ I p0_w.s.M) {r:(List (List Int))×(List Int)×(List BB)}(E:Ii N p0_w=some r):
 DK prog 32 #[vP u 0] S h (λv S' h'=>∃a9 ba bb:Value,v= .tuple #[]∧St S' (Bx u 84 [.string p0_w.b.H,af,vI p0_w.b.T,ag,ah,ai,aj,ak,am,an,vI p0_w.b.V,W,Y,Z,ab,ac,vI p0_w.s.D,a9,c,I,d,ba,g,bb,k,p]::OO AJ 3 29 a9 r.1::OS AJ 3 c p0_w.s.O::OS Bz 69 d p0_w.s.P::OS AJ 3 ba r.2.1::OS AJ 3 g p0_w.s.U::OS CJ 50 bb r.2.2::OS AJ 3 k p0_w.peaks::OS BJ 60 p p0_w.sent::L) h'):=by
 refine B0 (l:=[vP u 0]) 137 func32 O ntmps32 O λB=>?_
 rw[Ii] at E
 refine AI (AM O (kp [2,0] O) (AE (AI (AA O (DN O O (AG DZ O (AG EF O (AT Bu hs O mh O HO O (Zo hs (mt mh) O Fl O λb1=>AA O (AN (kp [17,16,15,2,0] O) (BH (λa w=>∃(i2:Int),IV B S h (137,[]) a w [(0,vP u 0),(2,vI i2)] (Bx u 84 [.string p0_w.b.H,af,vI p0_w.b.T,ag,ah,ai,aj,ak,am,an,vI p0_w.b.V,W,Y,Z,ab,ac,vI p0_w.s.D,t,c,I,d,z,g,ae,k,p]::OO AJ 3 29 t p0_w.s.F::OS AJ 3 c p0_w.s.O::OS Bz 69 d p0_w.s.P::OS AJ 3 z p0_w.s.S::OS AJ 3 g p0_w.s.U::OS CJ 50 ae p0_w.moves::OS AJ 3 k p0_w.peaks::OS BJ 60 p p0_w.sent::L) λ_ _=>AH i2∧EQ N p0_w i2=some r) ?_ ?_)))))))))))
 ·refine BV (λn1=>λa w=>∃(i8:Int) (bq:Int),IV B S h (137,[]) a w [(16,vI (↑p0_w.s.F.length:Int)),(15,t),(0,vP u 0),(2,vI i8),(17,vI bq)] (Bx u 84 [.string p0_w.b.H,af,vI p0_w.b.T,ag,ah,ai,aj,ak,am,an,vI p0_w.b.V,W,Y,Z,ab,ac,vI p0_w.s.D,t,c,I,d,z,g,ae,k,p]::OO AJ 3 29 t p0_w.s.F::OS AJ 3 c p0_w.s.O::OS Bz 69 d p0_w.s.P::OS AJ 3 z p0_w.s.S::OS AJ 3 g p0_w.s.U::OS CJ 50 ae p0_w.moves::OS AJ 3 k p0_w.peaks::OS BJ 60 p p0_w.sent::L) λ_ _=>AH i8∧AH bq∧EN N p0_w (EQ N p0_w) n1 i8 bq=some r) N ?_ ?_ ?_
  ·intro aa ww hf hw
   exact⟨0,0,_,_,hf.sub (kp [16,15,0,2,17] O),hw,hs,(C9.refl S h),(iq (n:=0) O),(iq (n:=0) O),E⟩
  ·rintro aa ww ⟨_,_,_,_,_,_,_,_,_,_,E⟩
   rw[EN] at E;cases E
  rintro n1 aa ww ⟨i8,bq,hq,ht,hf,hw,bc,dy,r9,hu,E⟩
  refine A6 ?_ hf hw
  clear hf hw ww aa
  rw[EN] at E
  refine AI (BI O (AN (kp [18,16,15,0,2,17] O) (AE (AY O E (λfv E=>?_) (λfv E=>?_)))))
  ·refine AS (AE (BY (AI ?_)))
   obtain⟨hv,dz,E⟩:=bd E
   refine O9 (r:=AJ) bc (mt mh) O O Fl dz O λhx d0=>?_
   obtain⟨hy,d1,E⟩:=bd E
   refine Ta (r:=AJ) Bu bc (mt mh) O d1 d0 CH O λhz ge fw=>AM O (kp [4,16,15,0,2,17] O) (Cn (.inl O) bc (AA O (AA O ?_)))
   obtain⟨fx,d2,E⟩:=bd E
   refine DW O O O OC O (λh' o=>F7 (St.all h') (fw.mono (λb hb=>qZ hb o.siz) (λb hb=>o.same b hb)) d2) λfy=>?_
   have h0:=fy
   refine A9 O (A0 O (B9 (kp [2,16,15,0,17] O) λh3 d3 f0=>B7 (CL (.inl O) (A9 O (AA O (AN (kp [17,2,16,15,0] O) (WF.nil (λaa ww hf hw=>?_))))))))
   exact⟨(Bw (i8+fx)),(Bw (bq+1)),_,_,hf.sub (kp [16,15,0,2,17] O),hw,d3,(dy.trans f0),(B5 _),(B5 _),E⟩
  refine By O (λaa ww hf hw=>?_)
  exact⟨i8,_,_,hf.sub (kp [0,2] O),hw,bc,dy,r9,E⟩
 rintro aa ww ⟨i2,cu,cv,hf,hw,ce,bo,r3,E⟩
 refine A6 ?_ hf hw
 clear hf hw ww aa
 rw[EQ] at E
 refine AE (AI (AA O (DN O O (AG DZ O (AG Km O (AT Bu ce O mh O MD O ?_))))))
 have d4:=a7.mono' bo
 refine BE O d4 KZ O λh4=>AA O (AN (kp [32,31,30,0,2] O) (BH (λa w=>∃(br:Int),IV B cu cv (137,[]) a w [(0,vP u 0),(2,vI br)] (Bx u 84 [.string p0_w.b.H,af,vI p0_w.b.T,ag,ah,ai,aj,ak,am,an,vI p0_w.b.V,W,Y,Z,ab,ac,vI p0_w.s.D,t,c,I,d,z,g,ae,k,p]::OO AJ 3 29 t p0_w.s.F::OS AJ 3 c p0_w.s.O::OS Bz 69 d p0_w.s.P::OS AJ 3 z p0_w.s.S::OS AJ 3 g p0_w.s.U::OS CJ 50 ae p0_w.moves::OS AJ 3 k p0_w.peaks::OS BJ 60 p p0_w.sent::L) λ_ _=>AH br∧EO N p0_w br=some r) ?_ ?_))
 ·refine BV (λn3=>λa w=>∃(bp:Int) (bs:Int),IV B cu cv (137,[]) a w [(31,vI (↑p0_w.s.M.length:Int)),(30,I),(0,vP u 0),(2,vI bp),(32,vI bs)] (Bx u 84 [.string p0_w.b.H,af,vI p0_w.b.T,ag,ah,ai,aj,ak,am,an,vI p0_w.b.V,W,Y,Z,ab,ac,vI p0_w.s.D,t,c,I,d,z,g,ae,k,p]::OO AJ 3 29 t p0_w.s.F::OS AJ 3 c p0_w.s.O::OS Bz 69 d p0_w.s.P::OS AJ 3 z p0_w.s.S::OS AJ 3 g p0_w.s.U::OS CJ 50 ae p0_w.moves::OS AJ 3 k p0_w.peaks::OS BJ 60 p p0_w.sent::L) λ_ _=>AH bp∧AH bs∧EM N p0_w (EO N p0_w) n3 bp bs=some r) N ?_ ?_ ?_
  ·intro aa ww hf hw
   exact⟨i2,0,_,_,hf.sub (kp [31,30,0,2,32] O),hw,ce,(C9.refl cu cv),r3,(iq (n:=0) O),E⟩
  ·rintro aa ww ⟨_,_,_,_,_,_,_,_,_,_,E⟩
   rw[EM] at E;cases E
  rintro n3 aa ww ⟨bp,bs,h5,h6,hf,hw,bt,cw,f1,h7,E⟩
  refine A6 ?_ hf hw
  clear hf hw ww aa
  rw[EM] at E
  refine AI (BI O (AN (kp [33,31,30,0,2,32] O) (AE (AY O E (λf2 E=>?_) (λf2 E=>?_)))))
  ·refine AS (AE (BY (WF.sl (AF 2 ?_))))
   obtain⟨ca,d5,E⟩:=bd E
   refine B1 O O (d4.mono' cw) KZ d5 O λh8 f3=>Cq Bu bt.1 O f3 Lq (λe=>by cases e) O λh9 f4=>AD (Di Ri O bt λia ib d6 d7=>?_)
   obtain⟨d8,rfl,ic,ie,d9⟩:=BJ.ex (f4.mono d7)
   refine Ht (vs:=[vI ca.Ak,vI ca.C,d8]) (cs':=[vI ca.Ak,vI ca.C,d8]) O O O (AC O (AC O (AC d9.one Es))) Lq O d6 .head O O λig bu ea=>AZ (kp [6,31,30,0,2,32] O) (Cn (.inl O) bu (AA O (AG Lv O (AT CQ bu O mh O CH O ?_))))
   obtain⟨f5,eb,E⟩:=bd E
   refine DW O O O OC O (λh' o=>F7 (St.all h') ((d9.mono' ea).mono' (o.all bu.1)) eb) λf6=>?_
   have ih:=f6
   refine A9 O (A0 O (B9 (kp [2,31,30,0,32] O) λii ec f7=>B7 (CL (.inl O) (A9 O (AA O (AN (kp [32,2,31,30,0] O) (WF.nil (λaa ww hf hw=>?_))))))))
   have ed:=ec.sel [1,1,1,1,1,1,1,1,1] 1 O
   exact⟨(Bw (bp+f5)),(Bw (bs+1)),_,_,hf.sub (kp [31,30,0,2,32] O),hw,ed,(cw.trans (d7.trans (ea.trans f7))),(B5 _),(B5 _),E⟩
  refine By O (λaa ww hf hw=>?_)
  exact⟨bp,_,_,hf.sub (kp [0,2] O),hw,bt,cw,f1,E⟩
 rintro aa ww ⟨br,ee,ij,hf,hw,bv,bw,f8,E⟩
 refine A6 ?_ hf hw
 clear hf hw ww aa
 rw[EO] at E
 refine AE (Cn (.inl O) bv (AA O (DN O O (AG DZ O (AG Kl O (AT CQ bv O mh O CH O ?_))))))
 obtain⟨f9,ef,E⟩:=bd E
 refine DW O O O OC O (λh' o=>F7 (St.all h') ((bv.oslAll (mt (mt (mt (mt mh))))).mono (λb hb=>qZ hb o.siz) (λb hb=>o.same b hb)) ef) λga=>?_
 have gb:=ga
 refine A0 O (B9 (kp [7,0,2] O) λeg cf bx=>AI (AA O (DN O O (AG HQ O (AG D1 O (AT Bu cf O mh O G7 O (BE O (bn.mono' (bo.trans (bw.trans bx))) GL O λik=>AA O (AN (kp [54,53,7,0,2] O) (BY (BV (λn4=>λa w=>∃(aq:Int) (ar:Int) (K:Int) (ax:Value) (ap:List BB) (ay:List (List Int)) (av:List Int),IV B ee eg (137,[]) a w [(53,vI (↑p0_w.b.A.length:Int)),(0,vP u 0),(2,vI aq),(7,vI ar),(54,vI K)] (OS CJ 50 ax ap::Bx u 84 [.string p0_w.b.H,af,vI p0_w.b.T,ag,ah,ai,aj,ak,am,an,vI p0_w.b.V,W,Y,Z,ab,ac,vI p0_w.s.D,t,c,I,d,z,g,ax,k,p]::OO AJ 3 29 t ay::OS AJ 3 c p0_w.s.O::OS Bz 69 d p0_w.s.P::OS AJ 3 z av::OS AJ 3 g p0_w.s.U::OS AJ 3 k p0_w.peaks::OS BJ 60 p p0_w.sent::L) λ_ _=>AH aq∧AH ar∧AH K∧DF N p0_w n4 aq ar K ap ay av=some r) N ?_ ?_ ?_))))))))))
 ·intro aa ww hf hw
  have cx:=cf.sel [6,0,0,0,0,0,0,0,0] 0 O
  exact⟨br,f9,0,ae,p0_w.moves,p0_w.s.F,p0_w.s.S,_,_,hf.sub (kp [53,0,2,7,54] O),hw,cx,(C9.refl ee eg),f8,gb,(iq (n:=0) O),E⟩
 ·rintro aa ww ⟨_,_,_,_,_,_,_,_,_,_,_,_,_,_,_,_,E⟩
  rw[DF] at E;cases E
 rintro n4 aa ww ⟨aq,ar,K,ax,ap,ay,av,be,bf,hf,hw,au,a2,eh,ei,ej,E⟩
 refine A6 ?_ hf hw
 clear hf hw ww aa
 rw[DF] at E
 refine AI (BI O (AN (kp [55,53,0,2,7,54] O) (AE (AY O E (λek E=>?_) (λek E=>?_)))))
 ·refine AS (AE (BH (λa w=>∃(a3:Int) (a4:Int) (bg:Value) (bh:List BB) (bi:List (List Int)) (bj:List Int),IV B be bf (137,[]) a w [(53,vI (↑p0_w.b.A.length:Int)),(0,vP u 0),(54,vI K),(2,vI a3),(7,vI a4)] (OS CJ 50 bg bh::Bx u 84 [.string p0_w.b.H,af,vI p0_w.b.T,ag,ah,ai,aj,ak,am,an,vI p0_w.b.V,W,Y,Z,ab,ac,vI p0_w.s.D,t,c,I,d,z,g,bg,k,p]::OO AJ 3 29 t bi::OS AJ 3 c p0_w.s.O::OS Bz 69 d p0_w.s.P::OS AJ 3 z bj::OS AJ 3 g p0_w.s.U::OS AJ 3 k p0_w.peaks::OS BJ 60 p p0_w.sent::L) λ_ _=>AH a3∧AH a4∧Fi N K (DF N p0_w n4) a3 a4 bh bi bj=some r) ?_ ?_))
  ·refine AI (AA O (AM O (kp [8,53,0,2,7,54] O) (AI (AM O (kp [9,8,53,0,2,7,54] O) (AE (AI (AA O (AA O (DN O O (AG Np O (AG O1 O (AT Bu au O (mt mh) O CH O (BE O (aw.mono' (bo.trans (bw.trans (bx.trans a2)))) CA O λgf=>BI O (AN (kp [64,9,8,53,0,2,7,54] O) (He (λa w=>∃(Q:Int),IV B be bf (137,[]) a w [(8,vI K),(53,vI (↑p0_w.b.A.length:Int)),(0,vP u 0),(2,vI aq),(7,vI ar),(54,vI K),(9,vI Q)] (OS CJ 50 ax ap::Bx u 84 [.string p0_w.b.H,af,vI p0_w.b.T,ag,ah,ai,aj,ak,am,an,vI p0_w.b.V,W,Y,Z,ab,ac,vI p0_w.s.D,t,c,I,d,z,g,ax,k,p]::OO AJ 3 29 t ay::OS AJ 3 c p0_w.s.O::OS Bz 69 d p0_w.s.P::OS AJ 3 z av::OS AJ 3 g p0_w.s.U::OS AJ 3 k p0_w.peaks::OS BJ 60 p p0_w.sent::L) λ_ _=>AH Q∧Gn N p0_w aq ar K ap ay av (Fi N K (DF N p0_w n4)) Q=some r) ?_ ?_)))))))))))))))
   ·refine AY O E (λel E=>?_) (λel E=>?_)
    ·refine CL (.inl O) (AA O (DN O O (AG Np O (AG O1 O (AT Bu au O (mt mh) O CH O (AA O ?_))))))
     obtain⟨em,cy,E⟩:=bd E
     refine B1 O O (aw.mono' (bo.trans (bw.trans (bx.trans a2)))) CA cy O λgg en=>BC Bu au.1 O en BA O λeo=>AA O (Dl O (AA O (Dl O (bW O O O O (AM O (kp [9,8,53,0,2,7,54] O) (WF.nil (λaa ww hf hw=>?_)))))))
     exact⟨(min (min em (Bw (1125899906842624-aq))) (Bw (1152921504606846976-ar))),_,_,hf.sub (kp [8,53,0,2,7,54,9] O),hw,au,(C9.refl be bf),(MM (MM eo (B5 _)) (B5 _)),E⟩
    refine AS (WF.nil (λaa ww hf hw=>?_))
    exact⟨0,_,_,hf.sub (kp [8,53,0,2,7,54,9] O),hw,au,(C9.refl be bf),(iq (n:=0) O),E⟩
   rintro aa ww ⟨Q,gh,gi,hf,hw,az,bz,ep,E⟩
   refine A6 ?_ hf hw
   clear hf hw ww aa
   rw[Gn] at E
   refine AE (AI (AA O (HX O (AN (kp [79,8,53,0,2,7,54,9] O) (AY O E (λeq E=>?_) (λeq E=>?_))))))
   ·refine By O (λaa ww hf hw=>?_)
    exact⟨aq,ar,ax,ap,ay,av,_,_,hf.sub (kp [53,0,54,2,7] O),hw,az,bz,eh,ei,E⟩
   refine AS (WF.sl (AF 13 (AA O (DN O O (AG DZ O (AG EF O (AT Bu az O (mt mh) O HO O (AA O ?_))))))))
   obtain⟨gj,cz,E⟩:=bd E
   refine O9 (r:=AJ) az (mt (mt mh)) O O Fl cz O λgl b0=>?_
   obtain⟨er,b2,E⟩:=bd E
   refine Ta (r:=AJ) Bu az (mt (mt mh)) O b2 b0 CH O λgm c0 cg=>?_
   obtain⟨b3,c1,E⟩:=bd E
   refine Ws O O cg CA c1 O λgn es fu=>BC Bu (λ_ x=>x) O es BA O λgp=>AA O (A9 O ?_)
   obtain⟨gq,b4,E⟩:=bd E
   refine Ws O O cg CA b4 O λgr gs cb=>AD ?_
   have c2:=az.pick (.tail (.tail .head))
   refine cD (r:=AJ) (i:=K) (j:=0) (y:=(Bw (b3+Q))) O O (⟨_,O,O,(B5 _)⟩:Rd _ _ AJ _ (Bw (b3+Q))) b0 c0 cb b2 b4 BA (λ_=>rfl) c2 λgu a0 ch=>AZ (kp [8,53,0,2,7,54,9] O) (WF.sl (AF 10 (AA O (DN O O (AG DZ O (AG Kl O (AT Bu a0 O (mt (mt mh)) O CH O ?_)))))))
   obtain⟨gv,c3,E⟩:=bd E
   refine BX a0 (mt (mt (mt (mt (mt mh))))) O O CA c3 O λgw c4=>?_
   obtain⟨ci,c5,E⟩:=bd E
   have et:=a0.epAt (mt (mt (mt (mt (mt mh))))) c5 GO.id c4
   refine BC Bu (λ_ x=>x) O et BA O λgx=>AA O (A9 O ?_)
   obtain⟨gy,c6,E⟩:=bd E
   refine BX a0 (mt (mt (mt (mt (mt mh))))) O O CA c6 O λgz c7=>AD ?_
   obtain⟨eu,c8,E⟩:=bd E
   refine Fd (r:=AJ) (l:=av) (i:=0) (x:=eu) O O (⟨_,O,O,(B5 _)⟩:Rd _ _ AJ _ (Bw (ci+Q))) c7 c8 MS.id BA (λ_=>rfl) a0 (.tail (.tail (.tail (.tail (.tail .head))))) λg0 b5 cj=>AZ (kp [8,53,0,2,7,54,9] O) (AI (AA O (AA O (A9 O (AM O (kp [2,8,53,0,7,54,9] O) (AI (AA O (AA O (A9 O (AM O (kp [7,2,8,53,0,54,9] O) (WF.sl (AF 6 (AA O (DN O O (AG HQ O (AG Ib O (AT Bu b5 O (mt (mt mh)) O LA O (BE O (bm.mono' (bo.trans (bw.trans (bx.trans (a2.trans (bz.trans (ch.trans cj))))))) Ku O λg1=>AD ?_))))))))))))))))))
   obtain⟨c9,E⟩:=LO E
   refine Jl (r:=AJ) (zx:=0) GM O ⟨O,by unfold AH;omega⟩ O O c9 O O b5 λev g2 b6 ew=>AF 1 (A0 O (AD (AZ (kp [10,7,2,8,53,0,54,9] O) (WF.sl (AF 3 (AA O (AA O ?_)))))))
   obtain⟨g3,da,E⟩:=bd E
   refine BX b6 mh O O CA da O λg4 db=>AD ?_
   obtain⟨ey,dc,E⟩:=bd E
   refine Fd (r:=AJ) (l:=(List.replicate ((↑p0_w.b.J.length:Int):Int).toNat (0:Int))) (i:=0) (x:=ey) O O (⟨_,O,O,ep⟩:Rd _ _ AJ _ Q) db dc MS.id BA (λ_=>rfl) b6 .head λck dd ez=>AZ (kp [10,7,2,8,53,0,54] O) ?_
   obtain⟨bk,ao,e0,e1⟩:=dd.pubs .head
   refine VZ (m:=[(10,ev),(7,vI (Bw (ar+Q))),(2,vI (Bw (aq+Q))),(8,vI K),(53,vI (↑p0_w.b.A.length:Int)),(0,vP u 0),(54,vI K)]) 14 [0] (λi v hh=>match i with|0=>v=vP u 0|1=>v=vP u 0|2=>v=vP u 0|3=>v=vP u 23|4=>v=ax|5=>v=vP u 0|6=>v=vP u 0|7=>v=vP u 16|8=>v=vP u 16|9=>v=vI p0_w.s.D∧AH p0_w.s.D|10=>v=vI K∧AH K|11=>Sl bk hh AJ v (upd (List.replicate ((↑p0_w.b.J.length:Int):Int).toNat (0:Int)) 0 Q)|12=>Rd bk hh CJ v (⟨p0_w.s.D,(-1),K,(-4),(upd (List.replicate ((↑p0_w.b.J.length:Int):Int).toNat (0:Int)) 0 Q)⟩:BB)|13=>Sl (SN bk ck hh) hh CJ v ([(⟨p0_w.s.D,(-1),K,(-4),(upd (List.replicate ((↑p0_w.b.J.length:Int):Int).toNat (0:Int)) 0 Q)⟩:BB)]:List BB)∧∃ad,v= .slice (some ad) 1 1|_=>False) [[],[],[(1,120)],[(2,121)],[(3,122)],[],[(5,124)],[(6,125)],[(7,126)],[(8,127)],[],[],[(9,128),(10,129),(11,130)],[(12,131)]] [(0,119),(4,123),(13,132)] mo (by kernel_rfl) [10,7,2,8,53,0,54] O (by kernel_rfl) (by kernel_rfl) (by kernel_rfl) (kp [10,7,2,8,53,0,54] O) (λi v h1 h2 o1 o2 hr=>?_) ?_ ?_ ?_
   ·match i,hr with
     |0,hr|1,hr|2,hr|3,hr|4,hr|5,hr|6,hr|7,hr|8,hr|9,hr|10,hr=>exact hr
     |11,hr=>exact Sl.mono' hr (o2.ext λb hb=>qZ (ao.1 b hb) o1.siz)
     |12,hr=>exact Rd.mono hr (o2.ext λb hb=>qZ (ao.1 b hb) o1.siz)
     |13,hr=>exact⟨Sl.mono' hr.1 (SN.mono ao.1 o1 o2),hr.2⟩
     |_+14,hr=>exact hr.elim
   ·refine RM.cons [] (by kernel_rfl) O O (by kernel_rfl) ?_ ?_
    ·intro mq hh o
     intro a hf
     exact⟨vP u 0,PF hf O,O⟩
    exact trivial
   ·refine BQ.cons O (λ_ _ _=>AF 1 (AA O (AO O))) (BQ.cons O (λ_ _ _=>AF 1 (AA O (AO O))) (BQ.cons O (λ_ _ _ _ e2=>by cases e2;exact AF 1 (DN O O (AO O))) (BQ.cons O (λ_ _ _ _ e3=>by cases e3;exact AF 1 (AG Ou O (AO O))) (BQ.cons O (λ_ _ o _ e4=>by cases e4;exact AF 1 (AT Bu (o.st ao) O (mt (mt mh)) O Tm O (AO O))) (BQ.cons O (λ_ _ _=>AF 1 (AA O (AO O))) (BQ.cons O (λ_ _ _ _ e5=>by cases e5;exact AF 1 (DN O O (AO O))) (BQ.cons O (λ_ _ _ _ e6=>by cases e6;exact AF 1 (AG DZ O (AO O))) (BQ.cons O (λ_ _ _ _ e7=>by cases e7;exact AF 1 (AG Jc O (AO O))) (BQ.cons O (λ_ _ o _ e8=>by cases e8;exact AF 1 (AT Bu (o.st ao) O (mt (mt mh)) O BA O (AO ⟨O,a6⟩))) (BQ.cons O (λ_ _ _=>AF 1 (AA O (AO ⟨O,ej⟩))) (BQ.cons O (λ_ _ o=>AF 1 (AA O (AO (e1.mono' (o.ext ao.1))))) ?_)))))))))))
    refine BQ.cons O ?_ ?_
    ·intro mq hh o
     intro g5 e9 g6 fa fb bl
     have fc:=o.st ao
     obtain⟨rfl,fd⟩:=e9
     obtain⟨rfl,fe⟩:=fa
     have bl:Sl _ _ AJ fb (upd (List.replicate ((↑p0_w.b.J.length:Int):Int).toNat (0:Int)) 0 Q):=bl
     refine AF 1 ?_
     obtain⟨de,cc,rfl,g7⟩:=(bl).len
     exact Iz (cs:=[vI p0_w.s.D,vI (-1),vI K,vI (-4),(.slice de (upd (List.replicate ((↑p0_w.b.J.length:Int):Int).toNat (0:Int)) 0 Q).length cc)]) cX O O O (AO (CJ.mk (x:=(⟨p0_w.s.D,(-1),K,(-4),(upd (List.replicate ((↑p0_w.b.J.length:Int):Int).toNat (0:Int)) 0 Q)⟩:BB)) fd (iq (n:=(-1)) O) fe (iq (n:=(-4)) O) bl))
    refine BQ.cons O ?_ ?_
    ·intro mq hh o
     intro ff a5
     have fc:=SN.st ao o
     have a5:=Rd.mono (S':=(SN bk ck hh)) a5 ⟨λb hb=> .inl hb,λ_ _=>rfl,qX _⟩
     have a5:Rd _ _ CJ ff (⟨p0_w.s.D,(-1),K,(-4),(upd (List.replicate ((↑p0_w.b.J.length:Int):Int).toNat (0:Int)) 0 Q)⟩:BB):=a5
     have gc:=fc.fz
     obtain⟨g8,rfl,fg,fh,fi,fj,cl⟩:=CJ.ex a5
     obtain⟨df,cd,rfl,g9⟩:=(cl).len
     refine E3 (cs:=[vI ((⟨p0_w.s.D,(-1),K,(-4),(upd (List.replicate ((↑p0_w.b.J.length:Int):Int).toNat (0:Int)) 0 Q)⟩:BB).D),vI ((⟨p0_w.s.D,(-1),K,(-4),(upd (List.replicate ((↑p0_w.b.J.length:Int):Int).toNat (0:Int)) 0 Q)⟩:BB).G),vI ((⟨p0_w.s.D,(-1),K,(-4),(upd (List.replicate ((↑p0_w.b.J.length:Int):Int).toNat (0:Int)) 0 Q)⟩:BB).C),vI ((⟨p0_w.s.D,(-1),K,(-4),(upd (List.replicate ((↑p0_w.b.J.length:Int):Int).toNat (0:Int)) 0 Q)⟩:BB).Be),(.slice df ((⟨p0_w.s.D,(-1),K,(-4),(upd (List.replicate ((↑p0_w.b.J.length:Int):Int).toNat (0:Int)) 0 Q)⟩:BB).Ag).length cd)]) Wf O O O O O O O gc λha hc dg cm=>?_
     have fk:=cl.mono' cm
     have dh:=dg.bxos (r:=CJ) (l:=([(⟨p0_w.s.D,(-1),K,(-4),(upd (List.replicate ((↑p0_w.b.J.length:Int):Int).toNat (0:Int)) 0 Q)⟩:BB)]:List BB)) .head ⟨_,_,O,⟨_,O,fg,fh,fi,fj,fk⟩,O⟩ (by simp [maxLen])
     obtain⟨hd,di,fl,fm⟩:=dh.pubs .head
     have b7:=Fz.done o (cm.trans fl) di
     exact Dt b7.1 ⟨Sl.mono' fm b7.2,_,O⟩
    exact trivial
   intro he cn hg fn hi fo hj b8
   have dj:=SN.st ao cn
   cases fn
   cases fo
   obtain⟨b8,gd,rfl⟩:=b8
   obtain⟨dk,E⟩:=LO E
   refine J3 (r:=CJ) (l:=ap) (xs:=([(⟨p0_w.s.D,(-1),K,(-4),(upd (List.replicate ((↑p0_w.b.J.length:Int):Int).toNat (0:Int)) 0 Q)⟩:BB)]:List BB)) O O Wf O (Sl.src b8) O dk O dj (λ_=>(.tail .head)) λhk hl b9 fp=>AF 2 (DN O O (AG Ou O (AD ?_)))
   obtain⟨a8,a1,rfl,hm⟩:=b9.oslen (mt mh)
   refine Iq (vs:=[(.slice a8 (ap++([(⟨p0_w.s.D,(-1),K,(-4),(upd (List.replicate ((↑p0_w.b.J.length:Int):Int).toNat (0:Int)) 0 Q)⟩:BB)]:List BB)).length a1)]) (cs':=[.string p0_w.b.H,af,vI p0_w.b.T,ag,ah,ai,aj,ak,am,an,vI p0_w.b.V,W,Y,Z,ab,ac,vI p0_w.s.D,t,c,I,d,z,g,(.slice a8 (ap++([(⟨p0_w.s.D,(-1),K,(-4),(upd (List.replicate ((↑p0_w.b.J.length:Int):Int).toNat (0:Int)) 0 Q)⟩:BB)]:List BB)).length a1),k,p]) O O O O Tm O b9 (.tail (.tail .head)) O O λhn dl fq=>AZ (kp [7,2,53,0,54] O) (WF.nil (λaa ww hf hw=>?_))
   have dm:=dl.sel [1,1,0,0,0,0,0,0,0] 0 O
   exact⟨(Bw (aq+Q)),(Bw (ar+Q)),(.slice a8 (ap++([(⟨p0_w.s.D,(-1),K,(-4),(upd (List.replicate ((↑p0_w.b.J.length:Int):Int).toNat (0:Int)) 0 Q)⟩:BB)]:List BB)).length a1),(ap++([(⟨p0_w.s.D,(-1),K,(-4),(upd (List.replicate ((↑p0_w.b.J.length:Int):Int).toNat (0:Int)) 0 Q)⟩:BB)]:List BB)),(upd ay K (upd er 0 (Bw (b3+Q)))),(upd av 0 (Bw (ci+Q))),_,_,hf.sub (kp [53,0,54,2,7] O),hw,dm,(bz.trans (ch.trans (cj.trans (ew.trans (ez.trans (e0.trans ((SN.ext ao.1 cn).trans (fp.trans fq)))))))),(B5 _),(B5 _),E⟩
  rintro aa ww ⟨a3,a4,bg,bh,bi,bj,ho,hp,hf,hw,dn,fr,fs,ft,E⟩
  refine A6 ?_ hf hw
  clear hf hw ww aa
  rw[Fi] at E
  refine CL (.inl O) (A9 O (AA O (AN (kp [54,53,0,2,7] O) (WF.nil (λaa ww hf hw=>?_)))))
  exact⟨a3,a4,(Bw (K+1)),bg,bh,bi,bj,_,_,hf.sub (kp [53,0,2,7,54] O),hw,dn,(a2.trans fr),fs,ft,(B5 _),E⟩
 refine Lh O (WF.nil (λaa ww hf hw=>?_))
 have dp:=au.sel [1,1,1,1,1,1,0,0,0] 0 O
 cases E
 exact K5 hf O hw K4 O (bo.trans (bw.trans (bx.trans a2))) ⟨_,_,_,O,dp⟩
def LK (hs:St S L h) {g:Value}{c:(List Int)}(m:Sl S h AJ g c) {b:Value}{d:(List Int)}(o:Sl S h AJ b d) {r:(List Int)}(E:G2 N c d=some r):
 DK prog 16 #[g,b] S h (λv S' h'=>St S' (OS AJ 3 v r::L) h'):=by
 refine B0 (l:=[g,b]) 35 func16 O ntmps16 O λB=>?_
 rw[G2] at E
 refine AI (AM O (kp [0,1] O) (WF.sl (AF 5 (AA O (BE O m CA O λb1=>AA O (BE O o CA O λb2=>PY O O O (AD ?_)))))))
 obtain⟨ab,E⟩:=LO E
 refine Jl (r:=AJ) (zx:=0) GM O ⟨O,by unfold AH;omega⟩ O O ab O O hs λv4 h5 ac e7=>AF 1 (A0 O (AD (AZ (kp [5,0,1] O) (WF.sl (AF 2 (AA O (AA O (AD (Td (r:=AJ) (l:=(List.replicate ((max (↑c.length:Int) (↑d.length:Int)):Int).toNat (0:Int))) (xs:=c) O O CA (Sl.src (m.mono' e7)) O ac .head λh9 F G=>AZ (kp [5,1] O) (AE (AI (AA O ?_))))))))))))
 have H:=o.mono' (e7.trans G)
 refine BE O H CA O λao=>AA O (AN (kp [19,18,17,5] O) (BH (λa w=>∃(C:List Int),IV B S h9 (35,[]) a w [(5,v4)] (OS AJ 3 v4 C::L) λ_ _=>Hq N C=some r) ?_ ?_))
 ·refine BV (λn1=>λa w=>∃(k:Int) (s:List Int),IV B S h9 (35,[]) a w [(18,vI (↑d.length:Int)),(17,b),(5,v4),(19,vI k)] (OS AJ 3 v4 s::L) λ_ _=>AH k∧F9 N d (Hq N) n1 k s=some r) N ?_ ?_ ?_
  ·intro y z t u
   exact⟨0,(Ns (List.replicate ((max (↑c.length:Int) (↑d.length:Int)):Int).toNat (0:Int)) c),_,_,t.sub (kp [18,17,5,19] O),u,F,(C9.refl S h9),(iq (n:=0) O),E⟩
  ·rintro y z ⟨_,_,_,_,_,_,_,_,_,E⟩
   rw[F9] at E;cases E
  rintro n1 y z ⟨k,s,ap,aq,t,u,j,D,ar,E⟩
  refine A6 ?_ t u
  clear t u z y
  rw[F9] at E
  refine AI (BI O (AN (kp [20,18,17,5,19] O) (AE (AY O E (λad E=>?_) (λad E=>?_)))))
  ·refine AS (AE (BY (AI (AA O ?_))))
   obtain⟨au,I,E⟩:=bd E
   refine B1 O O (H.mono' D) CA I O λav ae=>BC Bu j.1 O ae BA O λaf=>A0 O (AM O (kp [7,6,18,17,5,19] O) (FG (AF 7 (AA O (AA O (AA O (AA O ?_)))))))
   obtain⟨aw,J,E⟩:=bd E
   refine BX j mh O O CA J O λax K=>?_
   obtain⟨ay,M,E⟩:=bd E
   have ag:=j.epAt mh M GO.id K
   refine BC Bu (λ_ x=>x) O ag BA O λah=>AA O (AD ?_)
   obtain⟨Q,U,E⟩:=bd E
   refine CG O O O SK O j (JE (St.all _) ah af U) λaz a0 a1 A ai a2 p=>?_
   obtain⟨rfl,aj,an⟩:=p
   refine AF 1 ?_
   obtain⟨a3,V,E⟩:=bd E
   refine BX A mh O O CA V O λa4 W=>AD ?_
   obtain⟨ak,X,E⟩:=bd E
   refine Fd (r:=AJ) (l:=s) (i:=k) (x:=ak) O O (⟨_,O,O,aj⟩:Rd _ _ AJ _ Q) W X MS.id BA (λ_=>rfl) A .head λa5 Y al=>AZ (kp [18,17,5,19] O) (B7 (CL (.inl O) (A9 O (AA O (AN (kp [19,18,17,5] O) (WF.nil (λy z t u=>?_)))))))
   exact⟨(Bw (k+1)),(upd s k Q),_,_,t.sub (kp [18,17,5,19] O),u,Y,(D.trans (ai.trans al)),(B5 _),E⟩
  refine By O (λy z t u=>?_)
  exact⟨s,_,_,t.sub (kp [5] O),u,j,D,E⟩
 rintro y z ⟨C,a6,a7,t,u,Z,am,E⟩
 refine A6 ?_ t u
 clear t u z y
 rw[Hq] at E
 refine AI (AA O (AM O (kp [4] O) (A5 (λy z t u=>?_))))
 cases E
 exact Em t u O O (e7.trans (G.trans am)) Z
def RS (hs:St S L h) {j:Value}{D:(List BD)}(ah:Sl S h BJ j D) {c:Int}(bf:AH c) {t:Int}(M:AH t) {u:Int}(Q:AH u) {r:(List (List Int))×(List BD)}(E:Kx N D c t u=some r):
 DK prog 60 #[j,vI c,vI t,vI u] S h (λv S' h'=>∃ci cj:Value,v= .tuple #[ci,cj]∧St S' (OS (BZ.sl AJ) 29 ci r.1::OS BJ 60 cj r.2::L) h'):=by
 refine B0 (l:=[j,vI c,vI t,vI u]) 79 func60 O ntmps60 O λB=>?_
 rw[Kx] at E
 refine AI (A0 O (AM O (kp [0,1,2,3] O) (AE (Cn (.inl O) hs (AA O ?_)))))
 obtain⟨y1,ed,E⟩:=bd E
 refine DW O O O Wh O (λh' o=>J0 (St.all h') M (iq (n:=0) O) (iq (n:=64) O) ed) λr2=>?_
 have r3:=r2
 refine A0 O (B9 (kp [2,0,1,3] O) λh4 ee e6=>AE (Cn (.inl O) ee (AA O ?_)))
 obtain⟨y7,ef,E⟩:=bd E
 refine DW O O O Wh O (λh' o=>J0 (St.all h') Q (iq (n:=0) O) (iq (n:=16) O) ef) λr8=>?_
 have r9:=r8
 refine A0 O (B9 (kp [3,2,0,1] O) λf0 ck cl=>WF.sl (AF 1 (AA O (AD ?_))))
 obtain⟨cm,E⟩:=LO E
 refine Jl (r:=(BZ.sl AJ)) (zx:=[]) Ud O ⟨_,O,.inl ⟨O,O⟩⟩ O O cm O O ck λA bg a4 cn=>AF 1 (A0 O (AD (AZ (kp [8,3,2,0,1] O) (AE (AI (AA O (L3 a4 mh O Fl O λf1=>AA O (AN (kp [21,20,8,3,2,0,1] O) (BH (λa w=>∃(ax:List (List Int)),IV B S bg (79,[]) a w [(8,A),(2,vI y1),(0,j),(1,vI c)] (OS (BZ.sl AJ) 29 A ax::L) λ_ _=>Gl N D c y1 ax=some r) ?_ ?_)))))))))
 ·refine BV (λn1=>λa w=>∃(ac:Int) (aj:List (List Int)),IV B S bg (79,[]) a w [(20,vI (↑(List.replicate (y1:Int).toNat ([]:(List Int))).length:Int)),(8,A),(3,vI y7),(2,vI y1),(0,j),(1,vI c),(21,vI ac)] (OS (BZ.sl AJ) 29 A aj::L) λ_ _=>AH ac∧Gk N y1 y7 (Gl N D c y1) n1 ac aj=some r) N ?_ ?_ ?_
  ·intro I J z F
   exact⟨0,(List.replicate (y1:Int).toNat ([]:(List Int))),_,_,z.sub (kp [20,8,3,2,0,1,21] O),F,a4,(C9.refl S bg),(iq (n:=0) O),E⟩
  ·rintro I J ⟨_,_,_,_,_,_,_,_,_,E⟩
   rw[Gk] at E;cases E
  rintro n1 I J ⟨ac,aj,f2,f3,z,F,a5,co,f4,E⟩
  refine A6 ?_ z F
  clear z F J I
  rw[Gk] at E
  refine AI (BI O (AN (kp [22,20,8,3,2,0,1,21] O) (AE (AY O E (λeg E=>?_) (λeg E=>?_)))))
  ·refine AS (AE (BY (AI (AA O (AM O (kp [10,20,8,3,2,0,1,21] O) (FG (AF 3 (AA O (AA O (AA O (AD ?_)))))))))))
   obtain⟨cp,E⟩:=LO E
   refine Jl (r:=AJ) (zx:=0) GM O ⟨O,by unfold AH;omega⟩ O O cp O O a5 λf5 f6 a6 eh=>AF 1 ?_
   obtain⟨f7,cq,E⟩:=bd E
   refine BX a6 (mt mh) O O Fl cq O λf8 cr=>AD ?_
   obtain⟨ei,ct,E⟩:=bd E
   obtain⟨f9,cu,ej,ek⟩:=a6.pubs .head
   refine Fd (r:=(BZ.sl AJ)) (l:=aj) (i:=ac) (x:=ei) O O (Ml ek) cr ct MS.id CH (λ_=>rfl) cu .head λga cv el=>AZ (kp [20,8,3,2,0,1,21] O) (B7 (CL (.inl O) (A9 O (AA O (AN (kp [21,20,8,3,2,0,1] O) (WF.nil (λI J z F=>?_)))))))
   exact⟨(Bw (ac+1)),(upd aj ac (List.replicate (y7:Int).toNat (0:Int))),_,_,z.sub (kp [20,8,3,2,0,1,21] O),F,cv,(co.trans (eh.trans (ej.trans el))),(B5 _),E⟩
  refine By O (λI J z F=>?_)
  exact⟨aj,_,_,z.sub (kp [8,2,0,1] O),F,a5,co,E⟩
 rintro I J ⟨ax,bh,bi,z,F,cw,cx,E⟩
 refine A6 ?_ z F
 clear z F J I
 rw[Gl] at E
 refine AI (AA O ?_)
 have a7:=e6.trans (cl.trans (cn.trans cx))
 refine bS O O O (ah.mono' a7) KZ O λa8=>?_
 have cy:=cw.zs BJ 60 a8
 refine AM O (kp [9,8,2,0,1] O) (AE (AI (AA O ?_)))
 have cz:=ah.mono' a7
 refine BE O cz KZ O λgb=>AA O (AN (kp [34,33,32,9,8,2,1] O) (BH (λa w=>∃(bj:Value) (bk:List BD) (bl:List (List Int)),IV B bh bi (79,[]) a w [(8,A),(9,bj)] (OS BJ 60 bj bk::OS (BZ.sl AJ) 29 A bl::L) λ_ _=>H4 N bk bl=some r) ?_ ?_))
 ·refine BV (λn3=>λa w=>∃(V:Value) (ae:List BD) (U:Int) (af:List (List Int)),IV B bh bi (79,[]) a w [(33,vI (↑D.length:Int)),(32,j),(8,A),(2,vI y1),(1,vI c),(9,V),(34,vI U)] (OS BJ 60 V ae::OS (BZ.sl AJ) 29 A af::L) λ_ _=>AH U∧F8 N D c y1 (H4 N) n3 ae U af=some r) N ?_ ?_ ?_
  ·intro I J z F
   exact⟨(.slice a8 0 0),([]:List BD),0,ax,_,_,z.sub (kp [33,32,8,2,1,9,34] O),F,cy,(C9.refl bh bi),(iq (n:=0) O),E⟩
  ·rintro I J ⟨_,_,_,_,_,_,_,_,_,_,_,E⟩
   rw[F8] at E;cases E
  rintro n3 I J ⟨V,ae,U,af,G,em,z,F,ak,bm,gc,E⟩
  refine A6 ?_ z F
  clear z F J I
  rw[F8] at E
  refine AI (BI O (AN (kp [35,33,32,8,2,1,9,34] O) (AE (AY O E (λen E=>?_) (λen E=>?_)))))
  ·refine AS (AE (BH (λa w=>∃(ay:Value) (az:List BD) (a0:List (List Int)),IV B G em (79,[]) a w [(33,vI (↑D.length:Int)),(32,j),(8,A),(2,vI y1),(1,vI c),(34,vI U),(9,ay)] (OS BJ 60 ay az::OS (BZ.sl AJ) 29 A a0::L) λ_ _=>JO N U (F8 N D c y1 (H4 N) n3) az a0=some r) ?_ ?_))
   ·refine WF.sl (AF 2 ?_)
    obtain⟨g,c0,E⟩:=bd E
    refine B1 O O (cz.mono' bm) KZ c0 O λgd eo=>Cq Bu ak.1 O eo Lq (λe=>by cases e) O λge ep=>AD (Di Ri O ak λW gf c1 bn=>?_)
    obtain⟨c2,rfl,eq,bo,bp⟩:=BJ.ex (ep.mono bn)
    refine Ht (vs:=[vI g.Ak,vI g.C,c2]) (cs':=[vI g.Ak,vI g.C,c2]) O O O (AC O (AC O (AC bp.one Es))) Lq O c1 .head O O λag d a1=>AZ (kp [12,33,32,8,2,1,9,34] O) (AI (AG O0 O (AT Bu d O mh O BA O (AA O (HX O (AA O (AW 4 46 (.bool ((decide (g.Ak≤c))&&(decide (0≤g.C)))) ?_ ?_)))))))
    ·cases gg:(decide (g.Ak≤c))
     ·exact A4 O O
     exact AB O (AG Lw O (AB O (AT Bu d O mh O BA O (AB O (HY O (AL O (AV O)))))))
    refine AA O (AW 5 52 (.bool (((decide (g.Ak≤c))&&(decide (0≤g.C)))&&(decide (g.C<y1)))) ?_ ?_)
    ·cases gh:((decide (g.Ak≤c))&&(decide (0≤g.C)))
     ·exact A4 O O
     exact AB O (AG Lw O (AB O (AT Bu d O mh O BA O (AB O (AA O (AB O (BI O (AL O (AV O)))))))))
    refine AN (kp [52,12,33,32,8,2,1,9,34] O) (AY O E (λc3 E=>?_) (λc3 E=>?_))
    ·obtain ⟨eu,bq,E⟩:=bd E
     obtain⟨a9,br,E⟩:=bd E
     obtain⟨am,bs,E⟩:=bd E
     obtain⟨ev,bt,E⟩:=bd E
     refine NX (m:=[(12,vP W 0),(33,vI (↑D.length:Int)),(32,j),(8,A),(2,vI y1),(1,vI c),(9,V),(34,vI U)]) 12 (λi v K=>match i with|0=>v=A|1=>v=vP W 1|2=>v=vI g.C∧AH g.C|3=>v=A|4=>v=vP W 1|5=>v=vI g.C∧AH g.C|6=>EP A (g.C.toNat*((BZ.sl AJ)).sz+0) v|7=>Sl G K AJ v a9|8=>v=vP W 2|9=>Sl G K AJ v g.Ag|10=>Sl (SN G ag K) K AJ v am|11=>EP A (g.C.toNat*((BZ.sl AJ)).sz+0) v|_=>False) [[],[],[(1,54)],[],[],[(4,57)],[(3,56),(5,58)],[(6,59)],[],[(8,61)],[(7,60),(9,62)],[(0,53),(2,55)]] [(10,63),(11,64)] mo (by kernel_rfl) [12,33,32,8,2,1,9,34] O (by kernel_rfl) (by kernel_rfl) (by kernel_rfl) (kp [12,33,32,8,2,1,9,34] O) (λi v h1 h2 o1 o2 y=>?_) ?_ ?_
     ·match i,y with
       |0,y|1,y|2,y|3,y|4,y|5,y|6,y|8,y|11,y=>exact y
       |7,y|9,y=>exact Sl.mono' y (o2.ext λb hb=>qZ (d.1 b hb) o1.siz)
       |10,y=>exact Sl.mono' y (SN.mono d.1 o1 o2)
       |_+12,y=>exact y.elim
     ·refine BQ.cons O (λ_ _ _=>AF 1 (AA O (AO O))) (BQ.cons O (λ_ _ _=>AF 1 (AG Lw O (AO O))) (BQ.cons O (λ_ _ o _ c4=>by cases c4;exact AF 1 (AT Bu (o.st d) O mh O BA O (AO ⟨O,bo⟩))) (BQ.cons O (λ_ _ _=>AF 1 (AA O (AO O))) (BQ.cons O (λ_ _ _=>AF 1 (AG Lw O (AO O))) (BQ.cons O (λ_ _ o _ c5=>by cases c5;exact AF 1 (AT Bu (o.st d) O mh O BA O (AO ⟨O,bo⟩))) (BQ.cons O (λ_ _ o=>by intro ew c6 ey c7;cases c6;obtain ⟨rfl,ez⟩:=c7;exact AF 1 (BX (o.st d) (mt (mt mh)) O O Fl bq O λe0 bu=>AO bu)) ?_))))))
      refine BQ.cons O ?_ ?_
      ·intro mq K o
       intro e1 c8
       have X:=o.st d
       refine AF 1 ?_
       have c9:=X.epAt (mt (mt mh)) br GO.id c8
       exact BF Bu (λ_ x=>x) O c9 CH O λe2 da=>AO da
      refine BQ.cons O (λ_ _ _=>AF 1 (AG Lv O (AO O))) (BQ.cons O (λ_ _ o _ db=>by cases db;exact AF 1 (AT Bu (o.st d) O mh O CH O (AO (bp.mono' (a1.trans (o.ext d.1)))))) ?_)
      refine BQ.cons O ?_ ?_
      ·intro mq K o
       intro dc Y dd Z
       have X:=SN.st d o
       have Y:=Sl.mono' (S':=(SN G ag K)) Y ⟨λb hb=> .inl hb,λ_ _=>rfl,qX _⟩
       have Y:Sl _ _ AJ dc a9:=Y
       have Z:=Sl.mono' (S':=(SN G ag K)) Z ⟨λb hb=> .inl hb,λ_ _=>rfl,qX _⟩
       have Z:Sl _ _ AJ dd g.Ag:=Z
       have H:=X.fz
       refine CG O O O Wi O H (LK (St.all _) (Y.mono (λb hb=>H.1 b hb) (λ_ _=>rfl)) (Z.mono (λb hb=>H.1 b hb) (λ_ _=>rfl)) bs) λe3 e4 e5 er de df p=>?_
       have bv:=p
       have an:=H.join df bv ⟨OS.flat (λ{_ _ _ _ _ _} k=>k),trivial⟩
       simp only[rW,rQ] at an
       obtain⟨e7,bw,dg,dh⟩:=an.pubs .head
       have ao:=Fz.done o (de.trans dg) bw
       exact Dt ao.1 (Sl.mono' dh ao.2)
      exact BQ.cons O (λ_ _ o=>by intro e8 di e9 dj;cases di;obtain ⟨rfl,fa⟩:=dj;exact AF 1 (BX (o.st d) (mt (mt mh)) O O Fl bt O λfb bx=>AO bx)) trivial
     intro fc ba dk ap fd dl
     have bz:=SN.st d ba
     have ap:Sl _ _ AJ dk am:=ap
     obtain⟨dm,b0,E⟩:=bd E
     refine Fd (r:=(BZ.sl AJ)) (l:=af) (i:=g.C) (x:=dm) O O (Ml ap) dl b0 MS.id CH (λ_=>rfl) bz (.tail (.tail .head)) λfe b1 dn=>AZ (kp [33,32,8,2,1,9,34] O) (WF.nil (λI J z F=>?_))
     have b2:=b1.sel [1,1] 1 O
     exact⟨V,ae,(upd af g.C am),_,_,z.sub (kp [33,32,8,2,1,34,9] O),F,b2,(bn.trans (a1.trans ((SN.ext d.1 ba).trans dn))),E⟩
    obtain⟨s,b3,E⟩:=bd E
    refine NX (m:=[(12,vP W 0),(33,vI (↑D.length:Int)),(32,j),(8,A),(2,vI y1),(1,vI c),(9,V),(34,vI U)]) 10 (λi v K=>match i with|0=>v=V|1=>v=vP W 0|2=>v=vI g.Ak∧AH g.Ak|3=>v=vP W 1|4=>v=vI g.C∧AH g.C|5=>v=vP W 2|6=>Sl G K AJ v g.Ag|7=>Sl (SN G ag K) K AJ v s|8=>Rd (SN G ag K) K BJ v ({ g with Ag:=s}:BD)|9=>Sl (SN G ag K) K BJ v ([({ g with Ag:=s}:BD)]:List BD)∧∃ad,v= .slice (some ad) 1 1|_=>False) [[],[],[(1,66)],[],[(3,68)],[],[(5,70)],[(6,71)],[(2,67),(4,69),(7,72)],[(8,73)]] [(0,65),(9,74)] mo (by kernel_rfl) [12,33,32,8,2,1,9,34] O (by kernel_rfl) (by kernel_rfl) (by kernel_rfl) (kp [12,33,32,8,2,1,9,34] O) (λi v h1 h2 o1 o2 y=>?_) ?_ ?_
    ·match i,y with
      |0,y|1,y|2,y|3,y|4,y|5,y=>exact y
      |6,y=>exact Sl.mono' y (o2.ext λb hb=>qZ (d.1 b hb) o1.siz)
      |7,y=>exact Sl.mono' y (SN.mono d.1 o1 o2)
      |8,y=>exact Rd.mono y (SN.mono d.1 o1 o2)
      |9,y=>exact⟨Sl.mono' y.1 (SN.mono d.1 o1 o2),y.2⟩
      |_+10,y=>exact y.elim
    ·refine BQ.cons O (λ_ _ _=>AF 1 (AA O (AO O))) (BQ.cons O (λ_ _ _=>AF 1 (AG O0 O (AO O))) (BQ.cons O (λ_ _ o _ dp=>by cases dp;exact AF 1 (AT Bu (o.st d) O mh O BA O (AO ⟨O,eq⟩))) (BQ.cons O (λ_ _ _=>AF 1 (AG Lw O (AO O))) (BQ.cons O (λ_ _ o _ dq=>by cases dq;exact AF 1 (AT Bu (o.st d) O mh O BA O (AO ⟨O,bo⟩))) (BQ.cons O (λ_ _ _=>AF 1 (AG Lv O (AO O))) (BQ.cons O (λ_ _ o _ dr=>by cases dr;exact AF 1 (AT Bu (o.st d) O mh O CH O (AO (bp.mono' (a1.trans (o.ext d.1)))))) ?_))))))
     refine BQ.cons O ?_ ?_
     ·intro mq K o
      intro ds ab
      have X:=SN.st d o
      have ab:=Sl.mono' (S':=(SN G ag K)) ab ⟨λb hb=> .inl hb,λ_ _=>rfl,qX _⟩
      have ab:Sl _ _ AJ ds g.Ag:=ab
      have H:=X.fz
      refine CG O O O Q8 O H (EC (St.all _) (ab.mono (λb hb=>H.1 b hb) (λ_ _=>rfl)) b3) λff fg fh es dt du p=>?_
      have b4:=p
      have aq:=H.join du b4 ⟨OS.flat (λ{_ _ _ _ _ _} k=>k),trivial⟩
      simp only[rW,rQ] at aq
      obtain⟨fi,b5,dv,dw⟩:=aq.pubs .head
      have ar:=Fz.done o (dt.trans dv) b5
      exact Dt ar.1 (Sl.mono' dw ar.2)
     refine BQ.cons O ?_ ?_
     ·intro mq K o
      intro fj dx fk dy dz ai
      have X:=SN.st d o
      obtain⟨rfl,d0⟩:=dx
      obtain⟨rfl,d1⟩:=dy
      have ai:Sl _ _ AJ dz s:=ai
      refine AF 1 ?_
      obtain⟨b6,a2,rfl,fl⟩:=(ai).len
      exact Iz (cs:=[vI g.Ak,vI g.C,(.slice b6 s.length a2)]) cW O O O (AO (BJ.mk (x:=({ g with Ag:=s}:BD)) d0 d1 ai))
     refine BQ.cons O ?_ ?_
     ·intro mq K o
      intro d2 au
      have X:=SN.st d o
      have au:Rd _ _ BJ d2 ({ g with Ag:=s}:BD):=au
      have H:=X.fz
      obtain⟨fm,rfl,d3,d4,bb⟩:=BJ.ex au
      obtain⟨b7,a3,rfl,fn⟩:=(bb).len
      refine E3 (cs:=[vI (({ g with Ag:=s}:BD).Ak),vI (({ g with Ag:=s}:BD).C),(.slice b7 (({ g with Ag:=s}:BD).Ag).length a3)]) SE O O O O O O O H λfo fp b8 bc=>?_
      have d5:=bb.mono' bc
      have b9:=b8.bxos (r:=BJ) (l:=([({ g with Ag:=s}:BD)]:List BD)) .head ⟨_,_,O,⟨_,O,d3,d4,d5⟩,O⟩ (by simp [maxLen])
      obtain⟨fq,ca,d6,d7⟩:=b9.pubs .head
      have av:=Fz.done o (bc.trans d6) ca
      exact Dt av.1 ⟨Sl.mono' d7 av.2,_,O⟩
     exact trivial
    intro fr be fs d8 ft aw
    have cb:=SN.st d be
    cases d8
    obtain⟨aw,et,rfl⟩:=aw
    obtain⟨cc,E⟩:=LO E
    refine J3 (r:=BJ) (l:=ae) (xs:=([({ g with Ag:=s}:BD)]:List BD)) O O SE O (Sl.src aw) O cc O cb (λ_=>(.tail .head)) λd9 fu cd ea=>AF 1 (A0 O (AD (AZ (kp [9,33,32,8,2,1,34] O) (WF.nil (λI J z F=>?_)))))
    have ce:=cd.sel [1,1] 1 O
    exact⟨d9,(ae++([({ g with Ag:=s}:BD)]:List BD)),af,_,_,z.sub (kp [33,32,8,2,1,34,9] O),F,ce,(bn.trans (a1.trans ((SN.ext d.1 be).trans ea))),E⟩
   rintro I J ⟨ay,az,a0,fv,fw,z,F,cf,eb,E⟩
   refine A6 ?_ z F
   clear z F J I
   rw[JO] at E
   refine CL (.inl O) (A9 O (AA O (AN (kp [34,33,32,8,2,1,9] O) (WF.nil (λI J z F=>?_)))))
   exact⟨ay,az,(Bw (U+1)),a0,_,_,z.sub (kp [33,32,8,2,1,9,34] O),F,cf,(bm.trans eb),(B5 _),E⟩
  refine By O (λI J z F=>?_)
  exact⟨V,ae,af,_,_,z.sub (kp [8,9] O),F,ak,bm,E⟩
 rintro I J ⟨bj,bk,bl,fx,fy,z,F,cg,ec,E⟩
 refine A6 ?_ z F
 clear z F J I
 rw[H4] at E
 refine AI (AA O (AA O (A0 O (AM O (kp [9,8] O) (A5 (λI J z F=>?_))))))
 have ch:=cg.sel [1,0] 0 O
 cases E
 exact K5 z O F (JD (Jm z (v:=_) O) (JD (Jm z (v:=_) O) K4)) O (e6.trans (cl.trans (cn.trans (cx.trans ec)))) ⟨_,_,O,ch⟩
end Go.Proofs.YtblcgjadhemlbaaGreat
