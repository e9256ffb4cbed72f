import Derived.Test.YtblcgjadhemlbaaGreatRWalk7
namespace Go.Proofs.YtblcgjadhemlbaaGreat
open Go.RowKit
set_option linter.unusedVariables false
set_option linter.unusedSimpArgs false
set_option maxRecDepth 10000
set_option maxHeartbeats 2000000
variable {N:Nat}{S:Nat→Prop}{L:List HP}{h:Aw}
theorem NS {u:Nat}{p0_w:Aq}{M:Value}{Q:Value}{U:Value}{V:Value}{W:Value}{X:Value}{Y:Value}{Z:Value}{F:Value}{G:Value}{H:Value}{I:Value}{J:Value}{t:Value}{c:Value}{A:Value}{d:Value}{z:Value}{g:Value}{K:Value}{k:Value}{p:Value}(hs:St S (Bx u 84 [.string p0_w.b.Name,M,vI p0_w.b.Cells,Q,U,V,W,X,Y,Z,vI p0_w.b.Err,F,G,H,I,J,vI p0_w.s.Hour,t,c,A,d,z,g,K,k,p]::OO AM.int 3 29 t p0_w.s.Own::OS AM.int 3 c p0_w.s.Rem::OS BJ 69 d p0_w.s.Gates::OS AM.int 3 z p0_w.s.In::OS AM.int 3 g p0_w.s.Out::OS BH 50 K p0_w.moves::OS AM.int 3 k p0_w.peaks::OS Ap 60 p p0_w.sent::L) h) (db:p0_w.b.Name.size≤maxLen) (a7:Sl S h AM.str M p0_w.b.Owners) (dc:AH p0_w.b.Cells) (a8:Sl S h B0 Q p0_w.b.Places) (dd:Sl S h Bu U p0_w.b.Links) (de:Sl S h GT V p0_w.b.Towns) (df:Sl S h Ed W p0_w.b.Gauges) (dg:Sl S h Fv X p0_w.b.Roads) (dh:Sl S h Cz Y p0_w.b.Shelters) (di:Sl S h AM.int Z p0_w.b.Room) (ca:AH p0_w.b.Err) (ai:Sl S h AM.int F p0_w.in_.Rain) (cb:Sl S h FT G p0_w.in_.Faults) (cc:Sl S h Ik H p0_w.in_.Cmds) (cd:Sl S h Fd I p0_w.in_.Takes) (ce:Sl S h GH J p0_w.in_.Swaps) (av:AH p0_w.s.Hour) (aw:Sl S h Ap A p0_w.s.Queue) {r:(List (List Int))×(List Int)×(List Ak)}(E:Hk N p0_w=some r):
 CL Tryz.prog 32 #[vP u 0] S h (λv S' h'=>∃w_0_17 w_0_21 w_0_23:Value,v= .tuple #[]∧St S' (Bx u 84 [.string p0_w.b.Name,M,vI p0_w.b.Cells,Q,U,V,W,X,Y,Z,vI p0_w.b.Err,F,G,H,I,J,vI p0_w.s.Hour,w_0_17,c,A,d,w_0_21,g,w_0_23,k,p]::OO AM.int 3 29 w_0_17 r.1::OS AM.int 3 c p0_w.s.Rem::OS BJ 69 d p0_w.s.Gates::OS AM.int 3 w_0_21 r.2.1::OS AM.int 3 g p0_w.s.Out::OS BH 50 w_0_23 r.2.2::OS AM.int 3 k p0_w.peaks::OS Ap 60 p p0_w.sent::L) h'):=by
 refine BG (l:=[vP u 0]) 137 Tryz.func32 O Tryz.ntmps32 O λB=>?_
 rw[Hk] at E
 refine AI (AK O (kp [2,0] O) (AC (AI (AA O (CP O O (AD Cb O (AD Dm O (AS A9 hs O mh O Gu O (XM hs (mt mh) O Ev O λb1=>AA O (AN (kp [17,16,15,2,0] O) (Am (λa w=>∃(i2:Int),IV B S h (137,[]) a w [(0,vP u 0),(2,vI i2)] (Bx u 84 [.string p0_w.b.Name,M,vI p0_w.b.Cells,Q,U,V,W,X,Y,Z,vI p0_w.b.Err,F,G,H,I,J,vI p0_w.s.Hour,t,c,A,d,z,g,K,k,p]::OO AM.int 3 29 t p0_w.s.Own::OS AM.int 3 c p0_w.s.Rem::OS BJ 69 d p0_w.s.Gates::OS AM.int 3 z p0_w.s.In::OS AM.int 3 g p0_w.s.Out::OS BH 50 K p0_w.moves::OS AM.int 3 k p0_w.peaks::OS Ap 60 p p0_w.sent::L) λ_ _=>AH i2∧DU N p0_w i2=some r) ?_ ?_)))))))))))
 ·refine A5 (λn1=>λa w=>∃(i8:Int) (bb:Int),IV B S h (137,[]) a w [(16,vI (↑p0_w.s.Own.length:Int)),(15,t),(0,vP u 0),(2,vI i8),(17,vI bb)] (Bx u 84 [.string p0_w.b.Name,M,vI p0_w.b.Cells,Q,U,V,W,X,Y,Z,vI p0_w.b.Err,F,G,H,I,J,vI p0_w.s.Hour,t,c,A,d,z,g,K,k,p]::OO AM.int 3 29 t p0_w.s.Own::OS AM.int 3 c p0_w.s.Rem::OS BJ 69 d p0_w.s.Gates::OS AM.int 3 z p0_w.s.In::OS AM.int 3 g p0_w.s.Out::OS BH 50 K p0_w.moves::OS AM.int 3 k p0_w.peaks::OS Ap 60 p p0_w.sent::L) λ_ _=>AH i8∧AH bb∧DR N p0_w (DU N p0_w) n1 i8 bb=some r) N ?_ ?_ ?_
  ·intro aa ww hf hw
   exact⟨0,0,_,_,hf.sub (kp [16,15,0,2,17] O),hw,hs,(CA.refl S h),(iq (n:=0) O),(iq (n:=0) O),E⟩
  ·rintro aa ww ⟨_,_,_,_,_,_,_,_,_,_,E⟩
   rw[DR] at E;cases E
  rintro n1 aa ww ⟨i8,bb,g5,g6,hf,hw,ay,dj,r9,g7,E⟩
  refine Ac ?_ hf hw
  clear hf hw ww aa
  rw[DR] at E
  refine AI (Ar O (AN (kp [18,16,15,0,2,17] O) (AC (AW O E (λfg E=>?_) (λfg E=>?_)))))
  ·refine AQ (AC (BB (AI ?_)))
   obtain⟨g8,dk,E⟩:=bd E
   refine N7 (r:=AM.int) ay (mt mh) O O Ev dk O λg9 dl=>?_
   obtain⟨ha,dm,E⟩:=bd E
   refine R0 (r:=AM.int) A9 ay (mt mh) O dm dl BW O λhc fx fh=>AK O (kp [4,16,15,0,2,17] O) (Bq (.inl O) ay (AA O (AA O ?_)))
   obtain⟨fi,dn,E⟩:=bd E
   refine CY O O O NO O (λh' o=>Ew (St.all h') (fh.mono (λb hb=>Nat.lt_of_lt_of_le hb o.siz) (λb hb=>o.same b hb)) dn) λfj=>?_
   have hd:=fj
   refine Ai O (AY O (BM (kp [2,16,15,0,17] O) λhe dp fk=>BO (BZ (.inl O) (Ai O (AA O (AN (kp [17,2,16,15,0] O) (WF.nil (λaa ww hf hw=>?_))))))))
   exact⟨(BD (i8+fi)),(BD (bb+1)),_,_,hf.sub (kp [16,15,0,2,17] O),hw,dp,(dj.trans fk),(BK _),(BK _),E⟩
  refine BC O (λaa ww hf hw=>?_)
  exact⟨i8,_,_,hf.sub (kp [0,2] O),hw,ay,dj,r9,E⟩
 rintro aa ww ⟨i2,cf,cg,hf,hw,bz,a9,r3,E⟩
 refine Ac ?_ hf hw
 clear hf hw ww aa
 rw[DU] at E
 refine AC (AI (AA O (CP O O (AD Cb O (AD G2 O (AS A9 bz O mh O I3 O ?_))))))
 have dq:=aw.mono' a9
 refine An O dq H9 O λhg=>AA O (AN (kp [32,31,30,0,2] O) (Am (λa w=>∃(bc:Int),IV B cf cg (137,[]) a w [(0,vP u 0),(2,vI bc)] (Bx u 84 [.string p0_w.b.Name,M,vI p0_w.b.Cells,Q,U,V,W,X,Y,Z,vI p0_w.b.Err,F,G,H,I,J,vI p0_w.s.Hour,t,c,A,d,z,g,K,k,p]::OO AM.int 3 29 t p0_w.s.Own::OS AM.int 3 c p0_w.s.Rem::OS BJ 69 d p0_w.s.Gates::OS AM.int 3 z p0_w.s.In::OS AM.int 3 g p0_w.s.Out::OS BH 50 K p0_w.moves::OS AM.int 3 k p0_w.peaks::OS Ap 60 p p0_w.sent::L) λ_ _=>AH bc∧DT N p0_w bc=some r) ?_ ?_))
 ·refine A5 (λn3=>λa w=>∃(ba:Int) (be:Int),IV B cf cg (137,[]) a w [(31,vI (↑p0_w.s.Queue.length:Int)),(30,A),(0,vP u 0),(2,vI ba),(32,vI be)] (Bx u 84 [.string p0_w.b.Name,M,vI p0_w.b.Cells,Q,U,V,W,X,Y,Z,vI p0_w.b.Err,F,G,H,I,J,vI p0_w.s.Hour,t,c,A,d,z,g,K,k,p]::OO AM.int 3 29 t p0_w.s.Own::OS AM.int 3 c p0_w.s.Rem::OS BJ 69 d p0_w.s.Gates::OS AM.int 3 z p0_w.s.In::OS AM.int 3 g p0_w.s.Out::OS BH 50 K p0_w.moves::OS AM.int 3 k p0_w.peaks::OS Ap 60 p p0_w.sent::L) λ_ _=>AH ba∧AH be∧DQ N p0_w (DT N p0_w) n3 ba be=some r) N ?_ ?_ ?_
  ·intro aa ww hf hw
   exact⟨i2,0,_,_,hf.sub (kp [31,30,0,2,32] O),hw,bz,(CA.refl cf cg),r3,(iq (n:=0) O),E⟩
  ·rintro aa ww ⟨_,_,_,_,_,_,_,_,_,_,E⟩
   rw[DQ] at E;cases E
  rintro n3 aa ww ⟨ba,be,hi,hj,hf,hw,bf,ch,fl,hk,E⟩
  refine Ac ?_ hf hw
  clear hf hw ww aa
  rw[DQ] at E
  refine AI (Ar O (AN (kp [33,31,30,0,2,32] O) (AC (AW O E (λfm E=>?_) (λfm E=>?_)))))
  ·refine AQ (AC (BB (WF.sl (AG 2 ?_))))
   obtain⟨bu,dr,E⟩:=bd E
   refine BE O O (dq.mono' ch) H9 dr O λhl fn=>B8 A9 bf.1 O fn Kh (λe=>by cases e) O λhm fo=>AF (Cp QY O bf λhn ho ds dt=>?_)
   obtain⟨du,rfl,hp,hq,dv⟩:=Ap.ex (fo.mono dt)
   refine G7 (vs:=[vI bu.At,vI bu.To,du]) (cs':=[vI bu.At,vI bu.To,du]) O O O (AE O (AE O (AE dv.one EH))) Kh O ds .head O O λht bg dw=>AZ (kp [6,31,30,0,2,32] O) (Bq (.inl O) bg (AA O (AD KX O (AS Bd bg O mh O BW O ?_))))
   obtain⟨fp,dx,E⟩:=bd E
   refine CY O O O NO O (λh' o=>Ew (St.all h') ((dv.mono' dw).mono' (o.all bg.1)) dx) λfq=>?_
   have hu:=fq
   refine Ai O (AY O (BM (kp [2,31,30,0,32] O) λhv dy fr=>BO (BZ (.inl O) (Ai O (AA O (AN (kp [32,2,31,30,0] O) (WF.nil (λaa ww hf hw=>?_))))))))
   have dz:=dy.sel [1,1,1,1,1,1,1,1,1] 1 O
   exact⟨(BD (ba+fp)),(BD (be+1)),_,_,hf.sub (kp [31,30,0,2,32] O),hw,dz,(ch.trans (dt.trans (dw.trans fr))),(BK _),(BK _),E⟩
  refine BC O (λaa ww hf hw=>?_)
  exact⟨ba,_,_,hf.sub (kp [0,2] O),hw,bf,ch,fl,E⟩
 rintro aa ww ⟨bc,d0,hx,hf,hw,bh,bi,fs,E⟩
 refine Ac ?_ hf hw
 clear hf hw ww aa
 rw[DT] at E
 refine AC (Bq (.inl O) bh (AA O (CP O O (AD Cb O (AD KZ O (AS Bd bh O mh O BW O ?_))))))
 obtain⟨ft,d1,E⟩:=bd E
 refine CY O O O NO O (λh' o=>Ew (St.all h') ((bh.oslAll (mt (mt (mt (mt mh))))).mono (λb hb=>Nat.lt_of_lt_of_le hb o.siz) (λb hb=>o.same b hb)) d1) λfu=>?_
 have fv:=fu
 refine AY O (BM (kp [7,0,2] O) λd2 b0 bj=>AI (AA O (CP O O (AD GJ O (AD C1 O (AS A9 b0 O mh O F7 O (An O (a8.mono' (a9.trans (bi.trans bj))) FA O λhy=>AA O (AN (kp [54,53,7,0,2] O) (BB (A5 (λn4=>λa w=>∃(ae:Int) (af:Int) (C:Int) (aj:Value) (ac:List Ak) (ak:List (List Int)) (ah:List Int),IV B d0 d2 (137,[]) a w [(53,vI (↑p0_w.b.Places.length:Int)),(0,vP u 0),(2,vI ae),(7,vI af),(54,vI C)] (OS BH 50 aj ac::Bx u 84 [.string p0_w.b.Name,M,vI p0_w.b.Cells,Q,U,V,W,X,Y,Z,vI p0_w.b.Err,F,G,H,I,J,vI p0_w.s.Hour,t,c,A,d,z,g,aj,k,p]::OO AM.int 3 29 t ak::OS AM.int 3 c p0_w.s.Rem::OS BJ 69 d p0_w.s.Gates::OS AM.int 3 z ah::OS AM.int 3 g p0_w.s.Out::OS AM.int 3 k p0_w.peaks::OS Ap 60 p p0_w.sent::L) λ_ _=>AH ae∧AH af∧AH C∧CJ N p0_w n4 ae af C ac ak ah=some r) N ?_ ?_ ?_))))))))))
 ·intro aa ww hf hw
  have ci:=b0.sel [6,0,0,0,0,0,0,0,0] 0 O
  exact⟨bc,ft,0,K,p0_w.moves,p0_w.s.Own,p0_w.s.In,_,_,hf.sub (kp [53,0,2,7,54] O),hw,ci,(CA.refl d0 d2),fs,fv,(iq (n:=0) O),E⟩
 ·rintro aa ww ⟨_,_,_,_,_,_,_,_,_,_,_,_,_,_,_,_,E⟩
  rw[CJ] at E;cases E
 rintro n4 aa ww ⟨ae,af,C,aj,ac,ak,ah,az,a0,hf,hw,ag,ap,d3,d4,d5,E⟩
 refine Ac ?_ hf hw
 clear hf hw ww aa
 rw[CJ] at E
 refine AI (Ar O (AN (kp [55,53,0,2,7,54] O) (AC (AW O E (λd6 E=>?_) (λd6 E=>?_)))))
 ·refine AQ (AC (Am (λa w=>∃(aq:Int) (ar:Int) (a1:Value) (a2:List Ak) (a3:List (List Int)) (a4:List Int),IV B az a0 (137,[]) a w [(53,vI (↑p0_w.b.Places.length:Int)),(0,vP u 0),(54,vI C),(2,vI aq),(7,vI ar)] (OS BH 50 a1 a2::Bx u 84 [.string p0_w.b.Name,M,vI p0_w.b.Cells,Q,U,V,W,X,Y,Z,vI p0_w.b.Err,F,G,H,I,J,vI p0_w.s.Hour,t,c,A,d,z,g,a1,k,p]::OO AM.int 3 29 t a3::OS AM.int 3 c p0_w.s.Rem::OS BJ 69 d p0_w.s.Gates::OS AM.int 3 z a4::OS AM.int 3 g p0_w.s.Out::OS AM.int 3 k p0_w.peaks::OS Ap 60 p p0_w.sent::L) λ_ _=>AH aq∧AH ar∧Ei N C (CJ N p0_w n4) aq ar a2 a3 a4=some r) ?_ ?_))
  ·refine AI (AA O (AK O (kp [8,53,0,2,7,54] O) (AI (AK O (kp [9,8,53,0,2,7,54] O) (AC (AI (AA O (AA O (CP O O (AD M0 O (AD Rj O (AS A9 ag O (mt mh) O BW O (An O (ai.mono' (a9.trans (bi.trans (bj.trans ap)))) BQ O λfy=>Ar O (AN (kp [64,9,8,53,0,2,7,54] O) (Ge (λa w=>∃(D:Int),IV B az a0 (137,[]) a w [(8,vI C),(53,vI (↑p0_w.b.Places.length:Int)),(0,vP u 0),(2,vI ae),(7,vI af),(54,vI C),(9,vI D)] (OS BH 50 aj ac::Bx u 84 [.string p0_w.b.Name,M,vI p0_w.b.Cells,Q,U,V,W,X,Y,Z,vI p0_w.b.Err,F,G,H,I,J,vI p0_w.s.Hour,t,c,A,d,z,g,aj,k,p]::OO AM.int 3 29 t ak::OS AM.int 3 c p0_w.s.Rem::OS BJ 69 d p0_w.s.Gates::OS AM.int 3 z ah::OS AM.int 3 g p0_w.s.Out::OS AM.int 3 k p0_w.peaks::OS Ap 60 p p0_w.sent::L) λ_ _=>AH D∧Ff N p0_w ae af C ac ak ah (Ei N C (CJ N p0_w n4)) D=some r) ?_ ?_)))))))))))))))
   ·refine AW O E (λd7 E=>?_) (λd7 E=>?_)
    ·refine BZ (.inl O) (AA O (CP O O (AD M0 O (AD Rj O (AS A9 ag O (mt mh) O BW O (AA O ?_))))))
     obtain⟨d8,cj,E⟩:=bd E
     refine BE O O (ai.mono' (a9.trans (bi.trans (bj.trans ap)))) BQ cj O λf0 d9=>Af A9 ag.1 O d9 Ag O λea=>AA O (Ck O (AA O (Ck O (YW O O O O (AK O (kp [9,8,53,0,2,7,54] O) (WF.nil (λaa ww hf hw=>?_)))))))
     exact⟨(min (min d8 (BD (1125899906842624-ae))) (BD (1152921504606846976-af))),_,_,hf.sub (kp [8,53,0,2,7,54,9] O),hw,ag,(CA.refl az a0),(LR (LR ea (BK _)) (BK _)),E⟩
    refine AQ (WF.nil (λaa ww hf hw=>?_))
    exact⟨0,_,_,hf.sub (kp [8,53,0,2,7,54,9] O),hw,ag,(CA.refl az a0),(iq (n:=0) O),E⟩
   rintro aa ww ⟨D,f1,f2,hf,hw,am,bk,eb,E⟩
   refine Ac ?_ hf hw
   clear hf hw ww aa
   rw[Ff] at E
   refine AC (AI (AA O (GQ O (AN (kp [79,8,53,0,2,7,54,9] O) (AW O E (λec E=>?_) (λec E=>?_))))))
   ·refine BC O (λaa ww hf hw=>?_)
    exact⟨ae,af,aj,ac,ak,ah,_,_,hf.sub (kp [53,0,54,2,7] O),hw,am,bk,d3,d4,E⟩
   refine AQ (WF.sl (AG 13 (AA O (CP O O (AD Cb O (AD Dm O (AS A9 am O (mt mh) O Gu O (AA O ?_))))))))
   obtain⟨f3,ck,E⟩:=bd E
   refine N7 (r:=AM.int) am (mt (mt mh)) O O Ev ck O λf4 bl=>?_
   obtain⟨ed,bm,E⟩:=bd E
   refine R0 (r:=AM.int) A9 am (mt (mt mh)) O bm bl BW O λf5 cl b2=>?_
   obtain⟨bn,cm,E⟩:=bd E
   refine Ui O O b2 BQ cm O λf6 ee ff=>Af A9 (λ_ x=>x) O ee Ag O λf7=>AA O (Ai O ?_)
   obtain⟨f8,bo,E⟩:=bd E
   refine Ui O O b2 BQ bo O λf9 ga bv=>AF ?_
   have cn:=am.pick (.tail (.tail .head))
   refine Yd (r:=AM.int) (i:=C) (j:=0) (y:=(BD (bn+D))) O O (⟨_,O,O,(BK _)⟩:Rd _ _ AM.int _ (BD (bn+D))) bl cl bv bm bo Ag (λ_=>rfl) cn λgb an b3=>AZ (kp [8,53,0,2,7,54,9] O) (WF.sl (AG 10 (AA O (CP O O (AD Cb O (AD KZ O (AS A9 an O (mt (mt mh)) O BW O ?_)))))))
   obtain⟨gc,co,E⟩:=bd E
   refine A8 an (mt (mt (mt (mt (mt mh))))) O O BQ co O λgd cp=>?_
   obtain⟨b4,cq,E⟩:=bd E
   have ef:=an.epAt (mt (mt (mt (mt (mt mh))))) cq E9.id cp
   refine Af A9 (λ_ x=>x) O ef Ag O λge=>AA O (Ai O ?_)
   obtain⟨gf,cr,E⟩:=bd E
   refine A8 an (mt (mt (mt (mt (mt mh))))) O O BQ cr O λgg ct=>AF ?_
   obtain⟨eg,cu,E⟩:=bd E
   refine E3 (r:=AM.int) (l:=ah) (i:=0) (x:=eg) O O (⟨_,O,O,(BK _)⟩:Rd _ _ AM.int _ (BD (b4+D))) ct cu Lv.id Ag (λ_=>rfl) an (.tail (.tail (.tail (.tail (.tail .head))))) λgh bp b5=>AZ (kp [8,53,0,2,7,54,9] O) (AI (AA O (AA O (Ai O (AK O (kp [2,8,53,0,7,54,9] O) (AI (AA O (AA O (Ai O (AK O (kp [7,2,8,53,0,54,9] O) (WF.sl (AG 6 (AA O (CP O O (AD GJ O (AD H1 O (AS A9 bp O (mt (mt mh)) O Kj O (An O (a7.mono' (a9.trans (bi.trans (bj.trans (ap.trans (bk.trans (b3.trans b5))))))) KN O λgi=>AF ?_))))))))))))))))))
   obtain⟨cv,E⟩:=Lr E
   refine JO (r:=AM.int) (zx:=0) Ef O ⟨O,by unfold AH;omega⟩ O O cv O O bp λeh gj bq ei=>AG 1 (AY O (AF (AZ (kp [10,7,2,8,53,0,54,9] O) (WF.sl (AG 3 (AA O (AA O ?_)))))))
   obtain⟨gk,cw,E⟩:=bd E
   refine A8 bq mh O O BQ cw O λgl cx=>AF ?_
   obtain⟨ej,cy,E⟩:=bd E
   refine E3 (r:=AM.int) (l:=(List.replicate ((↑p0_w.b.Owners.length:Int):Int).toNat (0:Int))) (i:=0) (x:=ej) O O (⟨_,O,O,eb⟩:Rd _ _ AM.int _ D) cx cy Lv.id Ag (λ_=>rfl) bq .head λb6 cz ek=>AZ (kp [10,7,2,8,53,0,54] O) ?_
   obtain⟨a5,ab,el,em⟩:=cz.pubs .head
   refine Tk (m:=[(10,eh),(7,vI (BD (af+D))),(2,vI (BD (ae+D))),(8,vI C),(53,vI (↑p0_w.b.Places.length:Int)),(0,vP u 0),(54,vI C)]) 14 [0] (λi v hh=>match i with|0=>v=vP u 0|1=>v=vP u 0|2=>v=vP u 0|3=>v=vP u 23|4=>v=aj|5=>v=vP u 0|6=>v=vP u 0|7=>v=vP u 16|8=>v=vP u 16|9=>v=vI p0_w.s.Hour∧AH p0_w.s.Hour|10=>v=vI C∧AH C|11=>Sl a5 hh AM.int v (upd (List.replicate ((↑p0_w.b.Owners.length:Int):Int).toNat (0:Int)) 0 D)|12=>Rd a5 hh BH v (⟨p0_w.s.Hour,(-1),C,(-4),(upd (List.replicate ((↑p0_w.b.Owners.length:Int):Int).toNat (0:Int)) 0 D)⟩:Ak)|13=>Sl (SN a5 b6 hh) hh BH v ([(⟨p0_w.s.Hour,(-1),C,(-4),(upd (List.replicate ((↑p0_w.b.Owners.length:Int):Int).toNat (0:Int)) 0 D)⟩:Ak)]:List Ak)∧∃ad,v= .slice (some ad) 1 1|_=>False) [[],[],[(1,120)],[(2,121)],[(3,122)],[],[(5,124)],[(6,125)],[(7,126)],[(8,127)],[],[],[(9,128),(10,129),(11,130)],[(12,131)]] [(0,119),(4,123),(13,132)] mo (by kernel_rfl) [10,7,2,8,53,0,54] O (by kernel_rfl) (by kernel_rfl) (by kernel_rfl) (kp [10,7,2,8,53,0,54] O) (λi v h1 h2 o1 o2 hr=>?_) ?_ ?_ ?_
   ·match i,hr with
     |0,hr|1,hr|2,hr|3,hr|4,hr|5,hr|6,hr|7,hr|8,hr|9,hr|10,hr=>exact hr
     |11,hr=>exact Sl.mono' hr (o2.ext λb hb=>Nat.lt_of_lt_of_le (ab.1 b hb) o1.siz)
     |12,hr=>exact Rd.mono hr (o2.ext λb hb=>Nat.lt_of_lt_of_le (ab.1 b hb) o1.siz)
     |13,hr=>exact⟨Sl.mono' hr.1 (SN.mono ab.1 o1 o2),hr.2⟩
     |_+14,hr=>exact hr.elim
   ·refine QG.cons [] (by kernel_rfl) O O (by kernel_rfl) ?_ ?_
    ·intro mq hh o
     intro a hf
     exact⟨vP u 0,OD hf O,O⟩
    exact trivial
   ·refine A3.cons O (λ_ _ _=>AG 1 (AA O (AO O))) (A3.cons O (λ_ _ _=>AG 1 (AA O (AO O))) (A3.cons O (λ_ _ _ _ en=>by cases en;exact AG 1 (CP O O (AO O))) (A3.cons O (λ_ _ _ _ eo=>by cases eo;exact AG 1 (AD Nu O (AO O))) (A3.cons O (λ_ _ o _ ep=>by cases ep;exact AG 1 (AS A9 (o.st ab) O (mt (mt mh)) O SE O (AO O))) (A3.cons O (λ_ _ _=>AG 1 (AA O (AO O))) (A3.cons O (λ_ _ _ _ eq=>by cases eq;exact AG 1 (CP O O (AO O))) (A3.cons O (λ_ _ _ _ er=>by cases er;exact AG 1 (AD Cb O (AO O))) (A3.cons O (λ_ _ _ _ es=>by cases es;exact AG 1 (AD HK O (AO O))) (A3.cons O (λ_ _ o _ et=>by cases et;exact AG 1 (AS A9 (o.st ab) O (mt (mt mh)) O Ag O (AO ⟨O,av⟩))) (A3.cons O (λ_ _ _=>AG 1 (AA O (AO ⟨O,d5⟩))) (A3.cons O (λ_ _ o=>AG 1 (AA O (AO (em.mono' (o.ext ab.1))))) ?_)))))))))))
    refine A3.cons O ?_ ?_
    ·intro mq hh o
     intro gm eu gn ev ew a6
     have hsN:=o.st ab
     obtain⟨rfl,ey⟩:=eu
     obtain⟨rfl,ez⟩:=ev
     have a6:Sl _ _ AM.int ew (upd (List.replicate ((↑p0_w.b.Owners.length:Int):Int).toNat (0:Int)) 0 D):=a6
     refine AG 1 ?_
     obtain⟨c0,bw,rfl,gp⟩:=(a6).len
     exact HA (cs:=[vI p0_w.s.Hour,vI (-1),vI C,vI (-4),(.slice c0 (upd (List.replicate ((↑p0_w.b.Owners.length:Int):Int).toNat (0:Int)) 0 D).length bw)]) Yt O O O (AO (BH.mk (x:=(⟨p0_w.s.Hour,(-1),C,(-4),(upd (List.replicate ((↑p0_w.b.Owners.length:Int):Int).toNat (0:Int)) 0 D)⟩:Ak)) ey (iq (n:=(-1)) O) ez (iq (n:=(-4)) O) a6))
    refine A3.cons O ?_ ?_
    ·intro mq hh o
     intro e0 au
     have hsN:=SN.st ab o
     have au:=Rd.mono (S':=(SN a5 b6 hh)) au ⟨λb hb=> .inl hb,λ_ _=>rfl,Nat.le_refl _⟩
     have au:Rd _ _ BH e0 (⟨p0_w.s.Hour,(-1),C,(-4),(upd (List.replicate ((↑p0_w.b.Owners.length:Int):Int).toNat (0:Int)) 0 D)⟩:Ak):=au
     have hsF:=hsN.fz
     obtain⟨gq,rfl,e1,e2,e3,e4,b7⟩:=BH.ex au
     obtain⟨c1,bx,rfl,gr⟩:=(b7).len
     refine DY (cs:=[vI ((⟨p0_w.s.Hour,(-1),C,(-4),(upd (List.replicate ((↑p0_w.b.Owners.length:Int):Int).toNat (0:Int)) 0 D)⟩:Ak).Hour),vI ((⟨p0_w.s.Hour,(-1),C,(-4),(upd (List.replicate ((↑p0_w.b.Owners.length:Int):Int).toNat (0:Int)) 0 D)⟩:Ak).From),vI ((⟨p0_w.s.Hour,(-1),C,(-4),(upd (List.replicate ((↑p0_w.b.Owners.length:Int):Int).toNat (0:Int)) 0 D)⟩:Ak).To),vI ((⟨p0_w.s.Hour,(-1),C,(-4),(upd (List.replicate ((↑p0_w.b.Owners.length:Int):Int).toNat (0:Int)) 0 D)⟩:Ak).Way),(.slice c1 ((⟨p0_w.s.Hour,(-1),C,(-4),(upd (List.replicate ((↑p0_w.b.Owners.length:Int):Int).toNat (0:Int)) 0 D)⟩:Ak).Part).length bx)]) Ua O O O O O O O hsF λgs gt c2 b8=>?_
     have e5:=b7.mono' b8
     have c3:=c2.bxos (r:=BH) (l:=([(⟨p0_w.s.Hour,(-1),C,(-4),(upd (List.replicate ((↑p0_w.b.Owners.length:Int):Int).toNat (0:Int)) 0 D)⟩:Ak)]:List Ak)) .head ⟨_,_,O,⟨_,O,e1,e2,e3,e4,e5⟩,O⟩ (by simp [maxLen])
     obtain⟨gu,c4,e6,e7⟩:=c3.pubs .head
     have br:=Fz.done o (b8.trans e6) c4
     exact Cm br.1 ⟨Sl.mono' e7 br.2,_,O⟩
    exact trivial
   intro gv b9 gw e8 gx e9 gy bs
   have c5:=SN.st ab b9
   cases e8
   cases e9
   obtain⟨bs,fw,rfl⟩:=bs
   obtain⟨c6,E⟩:=Lr E
   refine JJ (r:=BH) (l:=ac) (xs:=([(⟨p0_w.s.Hour,(-1),C,(-4),(upd (List.replicate ((↑p0_w.b.Owners.length:Int):Int).toNat (0:Int)) 0 D)⟩:Ak)]:List Ak)) O O Ua O (Sl.src bs) O c6 O c5 (λ_=>(.tail .head)) λgz g0 bt fa=>AG 2 (CP O O (AD Nu O (AF ?_)))
   obtain⟨ax,ao,rfl,g1⟩:=bt.oslen (mt mh)
   refine H6 (vs:=[(.slice ax (ac++([(⟨p0_w.s.Hour,(-1),C,(-4),(upd (List.replicate ((↑p0_w.b.Owners.length:Int):Int).toNat (0:Int)) 0 D)⟩:Ak)]:List Ak)).length ao)]) (cs':=[.string p0_w.b.Name,M,vI p0_w.b.Cells,Q,U,V,W,X,Y,Z,vI p0_w.b.Err,F,G,H,I,J,vI p0_w.s.Hour,t,c,A,d,z,g,(.slice ax (ac++([(⟨p0_w.s.Hour,(-1),C,(-4),(upd (List.replicate ((↑p0_w.b.Owners.length:Int):Int).toNat (0:Int)) 0 D)⟩:Ak)]:List Ak)).length ao),k,p]) O O O O SE O bt (.tail (.tail .head)) O O λg2 c7 fb=>AZ (kp [7,2,53,0,54] O) (WF.nil (λaa ww hf hw=>?_))
   have c8:=c7.sel [1,1,0,0,0,0,0,0,0] 0 O
   exact⟨(BD (ae+D)),(BD (af+D)),(.slice ax (ac++([(⟨p0_w.s.Hour,(-1),C,(-4),(upd (List.replicate ((↑p0_w.b.Owners.length:Int):Int).toNat (0:Int)) 0 D)⟩:Ak)]:List Ak)).length ao),(ac++([(⟨p0_w.s.Hour,(-1),C,(-4),(upd (List.replicate ((↑p0_w.b.Owners.length:Int):Int).toNat (0:Int)) 0 D)⟩:Ak)]:List Ak)),(upd ak C (upd ed 0 (BD (bn+D)))),(upd ah 0 (BD (b4+D))),_,_,hf.sub (kp [53,0,54,2,7] O),hw,c8,(bk.trans (b3.trans (b5.trans (ei.trans (ek.trans (el.trans ((SN.ext ab.1 b9).trans (fa.trans fb)))))))),(BK _),(BK _),E⟩
  rintro aa ww ⟨aq,ar,a1,a2,a3,a4,g3,g4,hf,hw,c9,fc,fd,fe,E⟩
  refine Ac ?_ hf hw
  clear hf hw ww aa
  rw[Ei] at E
  refine BZ (.inl O) (Ai O (AA O (AN (kp [54,53,0,2,7] O) (WF.nil (λaa ww hf hw=>?_)))))
  exact⟨aq,ar,(BD (C+1)),a1,a2,a3,a4,_,_,hf.sub (kp [53,0,2,7,54] O),hw,c9,(ap.trans fc),fd,fe,(BK _),E⟩
 refine Kw O (WF.nil (λaa ww hf hw=>?_))
 have da:=ag.sel [1,1,1,1,1,1,0,0,0] 0 O
 cases E
 exact KH hf O hw KG O (a9.trans (bi.trans (bj.trans ap))) ⟨_,_,_,O,da⟩
theorem Ip (hs:St S L h) {g:Value}{c:(List Int)}(m:Sl S h AM.int g c) {b:Value}{d:(List Int)}(o:Sl S h AM.int b d) {r:(List Int)}(E:DD N c d=some r):
 CL Tryz.prog 16 #[g,b] S h (λv S' h'=>St S' (OS AM.int 3 v r::L) h'):=by
 refine BG (l:=[g,b]) 35 Tryz.func16 O Tryz.ntmps16 O λB=>?_
 rw[DD] at E
 refine AI (AK O (kp [0,1] O) (WF.sl (AG 5 (AA O (An O m BQ O λb1=>AA O (An O o BQ O λb2=>P7 O O O (AF ?_)))))))
 obtain⟨ab,E⟩:=Lr E
 refine JO (r:=AM.int) (zx:=0) Ef O ⟨O,by unfold AH;omega⟩ O O ab O O hs λv4 h5 ac e7=>AG 1 (AY O (AF (AZ (kp [5,0,1] O) (WF.sl (AG 2 (AA O (AA O (AF (R3 (r:=AM.int) (l:=(List.replicate ((max (↑c.length:Int) (↑d.length:Int)):Int).toNat (0:Int))) (xs:=c) O O BQ (Sl.src (m.mono' e7)) O ac .head λh9 F G=>AZ (kp [5,1] O) (AC (AI (AA O ?_))))))))))))
 have H:=o.mono' (e7.trans G)
 refine An O H BQ O λao=>AA O (AN (kp [19,18,17,5] O) (Am (λa w=>∃(C:List Int),IV B S h9 (35,[]) a w [(5,v4)] (OS AM.int 3 v4 C::L) λ_ _=>Gg N C=some r) ?_ ?_))
 ·refine A5 (λn1=>λa w=>∃(k:Int) (s:List Int),IV B S h9 (35,[]) a w [(18,vI (↑d.length:Int)),(17,b),(5,v4),(19,vI k)] (OS AM.int 3 v4 s::L) λ_ _=>AH k∧Ey N d (Gg N) n1 k s=some r) N ?_ ?_ ?_
  ·intro y z t u
   exact⟨0,(M3 (List.replicate ((max (↑c.length:Int) (↑d.length:Int)):Int).toNat (0:Int)) c),_,_,t.sub (kp [18,17,5,19] O),u,F,(CA.refl S h9),(iq (n:=0) O),E⟩
  ·rintro y z ⟨_,_,_,_,_,_,_,_,_,E⟩
   rw[Ey] at E;cases E
  rintro n1 y z ⟨k,s,ap,aq,t,u,j,D,ar,E⟩
  refine Ac ?_ t u
  clear t u z y
  rw[Ey] at E
  refine AI (Ar O (AN (kp [20,18,17,5,19] O) (AC (AW O E (λad E=>?_) (λad E=>?_)))))
  ·refine AQ (AC (BB (AI (AA O ?_))))
   obtain⟨au,I,E⟩:=bd E
   refine BE O O (H.mono' D) BQ I O λav ae=>Af A9 j.1 O ae Ag O λaf=>AY O (AK O (kp [7,6,18,17,5,19] O) (D3 (AG 7 (AA O (AA O (AA O (AA O ?_)))))))
   obtain⟨aw,J,E⟩:=bd E
   refine A8 j mh O O BQ J O λax K=>?_
   obtain⟨ay,M,E⟩:=bd E
   have ag:=j.epAt mh M E9.id K
   refine Af A9 (λ_ x=>x) O ag Ag O λah=>AA O (AF ?_)
   obtain⟨Q,U,E⟩:=bd E
   refine BX O O O Qs O j (IM (St.all _) ah af U) λaz a0 a1 A ai a2 p=>?_
   obtain⟨rfl,aj,an⟩:=p
   refine AG 1 ?_
   obtain⟨a3,V,E⟩:=bd E
   refine A8 A mh O O BQ V O λa4 W=>AF ?_
   obtain⟨ak,X,E⟩:=bd E
   refine E3 (r:=AM.int) (l:=s) (i:=k) (x:=ak) O O (⟨_,O,O,aj⟩:Rd _ _ AM.int _ Q) W X Lv.id Ag (λ_=>rfl) A .head λa5 Y al=>AZ (kp [18,17,5,19] O) (BO (BZ (.inl O) (Ai O (AA O (AN (kp [19,18,17,5] O) (WF.nil (λy z t u=>?_)))))))
   exact⟨(BD (k+1)),(upd s k Q),_,_,t.sub (kp [18,17,5,19] O),u,Y,(D.trans (ai.trans al)),(BK _),E⟩
  refine BC O (λy z t u=>?_)
  exact⟨s,_,_,t.sub (kp [5] O),u,j,D,E⟩
 rintro y z ⟨C,a6,a7,t,u,Z,am,E⟩
 refine Ac ?_ t u
 clear t u z y
 rw[Gg] at E
 refine AI (AA O (AK O (kp [4] O) (Ad (λy z t u=>?_))))
 cases E
 exact Dx t u O O (e7.trans (G.trans am)) Z
theorem QJ (hs:St S L h) {j:Value}{A:(List Al)}(ac:Sl S h Ap j A) {c:Int}(ba:AH c) {t:Int}(I:AH t) {u:Int}(J:AH u) {r:(List (List Int))×(List Al)}(E:J7 N A c t u=some r):
 CL Tryz.prog 60 #[j,vI c,vI t,vI u] S h (λv S' h'=>∃ce cf:Value,v= .tuple #[ce,cf]∧St S' (OS (AM.sl AM.int) 29 ce r.1::OS Ap 60 cf r.2::L) h'):=by
 refine BG (l:=[j,vI c,vI t,vI u]) 79 Tryz.func60 O Tryz.ntmps60 O λB=>?_
 rw[J7] at E
 refine AI (AY O (AK O (kp [0,1,2,3] O) (AC (Bq (.inl O) hs (AA O ?_)))))
 obtain⟨y1,d9,E⟩:=bd E
 refine CY O O O Ud O (λh' o=>JH (St.all h') I (iq (n:=0) O) (iq (n:=64) O) d9) λr2=>?_
 have r3:=r2
 refine AY O (BM (kp [2,0,1,3] O) λh4 ea e6=>AC (Bq (.inl O) ea (AA O ?_)))
 obtain⟨y7,eb,E⟩:=bd E
 refine CY O O O Ud O (λh' o=>JH (St.all h') J (iq (n:=0) O) (iq (n:=16) O) eb) λr8=>?_
 have r9:=r8
 refine AY O (BM (kp [3,2,0,1] O) λfv cg ch=>WF.sl (AG 1 (AA O (AF ?_))))
 obtain⟨ci,E⟩:=Lr E
 refine JO (r:=(AM.sl AM.int)) (zx:=[]) Wx O ⟨_,O,.inl ⟨O,O⟩⟩ O O ci O O cg λz bb a0 cj=>AG 1 (AY O (AF (AZ (kp [8,3,2,0,1] O) (AC (AI (AA O (Kc a0 mh O Ev O λfw=>AA O (AN (kp [21,20,8,3,2,0,1] O) (Am (λa w=>∃(ar:List (List Int)),IV B S bb (79,[]) a w [(8,z),(2,vI y1),(0,j),(1,vI c)] (OS (AM.sl AM.int) 29 z ar::L) λ_ _=>Fa N A c y1 ar=some r) ?_ ?_)))))))))
 ·refine A5 (λn1=>λa w=>∃(X:Int) (af:List (List Int)),IV B S bb (79,[]) a w [(20,vI (↑(List.replicate (y1:Int).toNat ([]:(List Int))).length:Int)),(8,z),(3,vI y7),(2,vI y1),(0,j),(1,vI c),(21,vI X)] (OS (AM.sl AM.int) 29 z af::L) λ_ _=>AH X∧FZ N y1 y7 (Fa N A c y1) n1 X af=some r) N ?_ ?_ ?_
  ·intro F G y C
   exact⟨0,(List.replicate (y1:Int).toNat ([]:(List Int))),_,_,y.sub (kp [20,8,3,2,0,1,21] O),C,a0,(CA.refl S bb),(iq (n:=0) O),E⟩
  ·rintro F G ⟨_,_,_,_,_,_,_,_,_,E⟩
   rw[FZ] at E;cases E
  rintro n1 F G ⟨X,af,fx,fy,y,C,a1,ck,f0,E⟩
  refine Ac ?_ y C
  clear y C G F
  rw[FZ] at E
  refine AI (Ar O (AN (kp [22,20,8,3,2,0,1,21] O) (AC (AW O E (λec E=>?_) (λec E=>?_)))))
  ·refine AQ (AC (BB (AI (AA O (AK O (kp [10,20,8,3,2,0,1,21] O) (D3 (AG 3 (AA O (AA O (AA O (AF ?_)))))))))))
   obtain⟨cl,E⟩:=Lr E
   refine JO (r:=AM.int) (zx:=0) Ef O ⟨O,by unfold AH;omega⟩ O O cl O O a1 λf1 f2 a2 ed=>AG 1 ?_
   obtain⟨f3,cm,E⟩:=bd E
   refine A8 a2 (mt mh) O O Ev cm O λf4 cn=>AF ?_
   obtain⟨ee,co,E⟩:=bd E
   obtain⟨f5,cp,ef,eg⟩:=a2.pubs .head
   refine E3 (r:=(AM.sl AM.int)) (l:=af) (i:=X) (x:=ee) O O (M7 eg) cn co Lv.id BW (λ_=>rfl) cp .head λf6 cq eh=>AZ (kp [20,8,3,2,0,1,21] O) (BO (BZ (.inl O) (Ai O (AA O (AN (kp [21,20,8,3,2,0,1] O) (WF.nil (λF G y C=>?_)))))))
   exact⟨(BD (X+1)),(upd af X (List.replicate (y7:Int).toNat (0:Int))),_,_,y.sub (kp [20,8,3,2,0,1,21] O),C,cq,(ck.trans (ed.trans (ef.trans eh))),(BK _),E⟩
  refine BC O (λF G y C=>?_)
  exact⟨af,_,_,y.sub (kp [8,2,0,1] O),C,a1,ck,E⟩
 rintro F G ⟨ar,bc,be,y,C,cr,ct,E⟩
 refine Ac ?_ y C
 clear y C G F
 rw[Fa] at E
 refine AI (AA O ?_)
 have a3:=e6.trans (ch.trans (cj.trans ct))
 refine YT O O O (ac.mono' a3) H9 O λa4=>?_
 have cu:=cr.zs Ap 60 a4
 refine AK O (kp [9,8,2,0,1] O) (AC (AI (AA O ?_)))
 have cv:=ac.mono' a3
 refine An O cv H9 O λf7=>AA O (AN (kp [34,33,32,9,8,2,1] O) (Am (λa w=>∃(bf:Value) (bg:List Al) (bh:List (List Int)),IV B bc be (79,[]) a w [(8,z),(9,bf)] (OS Ap 60 bf bg::OS (AM.sl AM.int) 29 z bh::L) λ_ _=>Gw N bg bh=some r) ?_ ?_))
 ·refine A5 (λn3=>λa w=>∃(M:Value) (Y:List Al) (K:Int) (Z:List (List Int)),IV B bc be (79,[]) a w [(33,vI (↑A.length:Int)),(32,j),(8,z),(2,vI y1),(1,vI c),(9,M),(34,vI K)] (OS Ap 60 M Y::OS (AM.sl AM.int) 29 z Z::L) λ_ _=>AH K∧Ex N A c y1 (Gw N) n3 Y K Z=some r) N ?_ ?_ ?_
  ·intro F G y C
   exact⟨(.slice a4 0 0),([]:List Al),0,ar,_,_,y.sub (kp [33,32,8,2,1,9,34] O),C,cu,(CA.refl bc be),(iq (n:=0) O),E⟩
  ·rintro F G ⟨_,_,_,_,_,_,_,_,_,_,_,E⟩
   rw[Ex] at E;cases E
  rintro n3 F G ⟨M,Y,K,Z,D,ei,y,C,ag,bi,f8,E⟩
  refine Ac ?_ y C
  clear y C G F
  rw[Ex] at E
  refine AI (Ar O (AN (kp [35,33,32,8,2,1,9,34] O) (AC (AW O E (λej E=>?_) (λej E=>?_)))))
  ·refine AQ (AC (Am (λa w=>∃(au:Value) (av:List Al) (aw:List (List Int)),IV B D ei (79,[]) a w [(33,vI (↑A.length:Int)),(32,j),(8,z),(2,vI y1),(1,vI c),(34,vI K),(9,au)] (OS Ap 60 au av::OS (AM.sl AM.int) 29 z aw::L) λ_ _=>Ie N K (Ex N A c y1 (Gw N) n3) av aw=some r) ?_ ?_))
   ·refine WF.sl (AG 2 ?_)
    obtain⟨g,cw,E⟩:=bd E
    refine BE O O (cv.mono' bi) H9 cw O λf9 ek=>B8 A9 ag.1 O ek Kh (λe=>by cases e) O λga el=>AF (Cp QY O ag λQ gb cx bj=>?_)
    obtain⟨cy,rfl,em,bk,bl⟩:=Ap.ex (el.mono bj)
    refine G7 (vs:=[vI g.At,vI g.To,cy]) (cs':=[vI g.At,vI g.To,cy]) O O O (AE O (AE O (AE bl.one EH))) Kh O cx .head O O λab d ax=>AZ (kp [12,33,32,8,2,1,9,34] O) (AI (AD Ll O (AS A9 d O mh O Ag O (AA O (GQ O (AA O (AV 4 46 (.bool ((decide (g.At≤c))&&(decide (0≤g.To)))) ?_ ?_)))))))
    ·cases gc:(decide (g.At≤c))
     ·exact Aa O O
     exact AB O (AD KY O (AB O (AS A9 d O mh O Ag O (AB O (Gf O (AJ O (AU O)))))))
    refine AA O (AV 5 52 (.bool (((decide (g.At≤c))&&(decide (0≤g.To)))&&(decide (g.To<y1)))) ?_ ?_)
    ·cases gd:((decide (g.At≤c))&&(decide (0≤g.To)))
     ·exact Aa O O
     exact AB O (AD KY O (AB O (AS A9 d O mh O Ag O (AB O (AA O (AB O (Ar O (AJ O (AU O)))))))))
    refine AN (kp [52,12,33,32,8,2,1,9,34] O) (AW O E (λcz E=>?_) (λcz E=>?_))
    ·obtain ⟨eq,bm,E⟩:=bd E
     obtain⟨a5,bn,E⟩:=bd E
     obtain⟨ah,bo,E⟩:=bd E
     obtain⟨er,bp,E⟩:=bd E
     refine Mk (m:=[(12,vP Q 0),(33,vI (↑A.length:Int)),(32,j),(8,z),(2,vI y1),(1,vI c),(9,M),(34,vI K)]) 12 (λi v H=>match i with|0=>v=z|1=>v=vP Q 1|2=>v=vI g.To∧AH g.To|3=>v=z|4=>v=vP Q 1|5=>v=vI g.To∧AH g.To|6=>EP z (g.To.toNat*((AM.sl AM.int)).sz+0) v|7=>Sl D H AM.int v a5|8=>v=vP Q 2|9=>Sl D H AM.int v g.Part|10=>Sl (SN D ab H) H AM.int v ah|11=>EP z (g.To.toNat*((AM.sl AM.int)).sz+0) v|_=>False) [[],[],[(1,54)],[],[],[(4,57)],[(3,56),(5,58)],[(6,59)],[],[(8,61)],[(7,60),(9,62)],[(0,53),(2,55)]] [(10,63),(11,64)] mo (by kernel_rfl) [12,33,32,8,2,1,9,34] O (by kernel_rfl) (by kernel_rfl) (by kernel_rfl) (kp [12,33,32,8,2,1,9,34] O) (λi v h1 h2 o1 o2 hr=>?_) ?_ ?_
     ·match i,hr with
       |0,hr|1,hr|2,hr|3,hr|4,hr|5,hr|6,hr|8,hr|11,hr=>exact hr
       |7,hr|9,hr=>exact Sl.mono' hr (o2.ext λb hb=>Nat.lt_of_lt_of_le (d.1 b hb) o1.siz)
       |10,hr=>exact Sl.mono' hr (SN.mono d.1 o1 o2)
       |_+12,hr=>exact hr.elim
     ·refine A3.cons O (λ_ _ _=>AG 1 (AA O (AO O))) (A3.cons O (λ_ _ _=>AG 1 (AD KY O (AO O))) (A3.cons O (λ_ _ o _ c0=>by cases c0;exact AG 1 (AS A9 (o.st d) O mh O Ag O (AO ⟨O,bk⟩))) (A3.cons O (λ_ _ _=>AG 1 (AA O (AO O))) (A3.cons O (λ_ _ _=>AG 1 (AD KY O (AO O))) (A3.cons O (λ_ _ o _ c1=>by cases c1;exact AG 1 (AS A9 (o.st d) O mh O Ag O (AO ⟨O,bk⟩))) (A3.cons O (λ_ _ o=>by intro es c2 et c3;cases c2;obtain ⟨rfl,eu⟩:=c3;exact AG 1 (A8 (o.st d) (mt (mt mh)) O O Ev bm O λev bq=>AO bq)) ?_))))))
      refine A3.cons O ?_ ?_
      ·intro mq H o
       intro ew c4
       have hsN:=o.st d
       refine AG 1 ?_
       have c5:=hsN.epAt (mt (mt mh)) bn E9.id c4
       exact Ao A9 (λ_ x=>x) O c5 BW O λey c6=>AO c6
      refine A3.cons O (λ_ _ _=>AG 1 (AD KX O (AO O))) (A3.cons O (λ_ _ o _ c7=>by cases c7;exact AG 1 (AS A9 (o.st d) O mh O BW O (AO (bl.mono' (ax.trans (o.ext d.1)))))) ?_)
      refine A3.cons O ?_ ?_
      ·intro mq H o
       intro c8 U c9 V
       have hsN:=SN.st d o
       have U:=Sl.mono' (S':=(SN D ab H)) U ⟨λb hb=> .inl hb,λ_ _=>rfl,Nat.le_refl _⟩
       have U:Sl _ _ AM.int c8 a5:=U
       have V:=Sl.mono' (S':=(SN D ab H)) V ⟨λb hb=> .inl hb,λ_ _=>rfl,Nat.le_refl _⟩
       have V:Sl _ _ AM.int c9 g.Part:=V
       have hsF:=hsN.fz
       refine BX O O O Qt O hsF (Ip (St.all _) (U.mono (λb hb=>hsF.1 b hb) (λ_ _=>rfl)) (V.mono (λb hb=>hsF.1 b hb) (λ_ _=>rfl)) bo) λez e0 e1 en da db p=>?_
       have br:=p
       have ai:=hsF.join db br ⟨OS.flat (λ{_ _ _ _ _ _} k=>k),trivial⟩
       simp only[List.cons_append,List.nil_append] at ai
       obtain⟨e2,bs,dc,dd⟩:=ai.pubs .head
       have aj:=Fz.done o (da.trans dc) bs
       exact Cm aj.1 (Sl.mono' dd aj.2)
      exact A3.cons O (λ_ _ o=>by intro e3 de e4 df;cases de;obtain ⟨rfl,e5⟩:=df;exact AG 1 (A8 (o.st d) (mt (mt mh)) O O Ev bp O λe7 bt=>AO bt)) trivial
     intro e8 a6 dg ak e9 dh
     have bu:=SN.st d a6
     have ak:Sl _ _ AM.int dg ah:=ak
     obtain⟨di,bv,E⟩:=bd E
     refine E3 (r:=(AM.sl AM.int)) (l:=Z) (i:=g.To) (x:=di) O O (M7 ak) dh bv Lv.id BW (λ_=>rfl) bu (.tail (.tail .head)) λfa bw dj=>AZ (kp [33,32,8,2,1,9,34] O) (WF.nil (λF G y C=>?_))
     have bx:=bw.sel [1,1] 1 O
     exact⟨M,Y,(upd Z g.To ah),_,_,y.sub (kp [33,32,8,2,1,34,9] O),C,bx,(bj.trans (ax.trans ((SN.ext d.1 a6).trans dj))),E⟩
    obtain⟨s,bz,E⟩:=bd E
    refine Mk (m:=[(12,vP Q 0),(33,vI (↑A.length:Int)),(32,j),(8,z),(2,vI y1),(1,vI c),(9,M),(34,vI K)]) 10 (λi v H=>match i with|0=>v=M|1=>v=vP Q 0|2=>v=vI g.At∧AH g.At|3=>v=vP Q 1|4=>v=vI g.To∧AH g.To|5=>v=vP Q 2|6=>Sl D H AM.int v g.Part|7=>Sl (SN D ab H) H AM.int v s|8=>Rd (SN D ab H) H Ap v ({ g with Part:=s}:Al)|9=>Sl (SN D ab H) H Ap v ([({ g with Part:=s}:Al)]:List Al)∧∃ad,v= .slice (some ad) 1 1|_=>False) [[],[],[(1,66)],[],[(3,68)],[],[(5,70)],[(6,71)],[(2,67),(4,69),(7,72)],[(8,73)]] [(0,65),(9,74)] mo (by kernel_rfl) [12,33,32,8,2,1,9,34] O (by kernel_rfl) (by kernel_rfl) (by kernel_rfl) (kp [12,33,32,8,2,1,9,34] O) (λi v h1 h2 o1 o2 hr=>?_) ?_ ?_
    ·match i,hr with
      |0,hr|1,hr|2,hr|3,hr|4,hr|5,hr=>exact hr
      |6,hr=>exact Sl.mono' hr (o2.ext λb hb=>Nat.lt_of_lt_of_le (d.1 b hb) o1.siz)
      |7,hr=>exact Sl.mono' hr (SN.mono d.1 o1 o2)
      |8,hr=>exact Rd.mono hr (SN.mono d.1 o1 o2)
      |9,hr=>exact⟨Sl.mono' hr.1 (SN.mono d.1 o1 o2),hr.2⟩
      |_+10,hr=>exact hr.elim
    ·refine A3.cons O (λ_ _ _=>AG 1 (AA O (AO O))) (A3.cons O (λ_ _ _=>AG 1 (AD Ll O (AO O))) (A3.cons O (λ_ _ o _ dk=>by cases dk;exact AG 1 (AS A9 (o.st d) O mh O Ag O (AO ⟨O,em⟩))) (A3.cons O (λ_ _ _=>AG 1 (AD KY O (AO O))) (A3.cons O (λ_ _ o _ dl=>by cases dl;exact AG 1 (AS A9 (o.st d) O mh O Ag O (AO ⟨O,bk⟩))) (A3.cons O (λ_ _ _=>AG 1 (AD KX O (AO O))) (A3.cons O (λ_ _ o _ dm=>by cases dm;exact AG 1 (AS A9 (o.st d) O mh O BW O (AO (bl.mono' (ax.trans (o.ext d.1)))))) ?_))))))
     refine A3.cons O ?_ ?_
     ·intro mq H o
      intro dn W
      have hsN:=SN.st d o
      have W:=Sl.mono' (S':=(SN D ab H)) W ⟨λb hb=> .inl hb,λ_ _=>rfl,Nat.le_refl _⟩
      have W:Sl _ _ AM.int dn g.Part:=W
      have hsF:=hsN.fz
      refine BX O O O P5 O hsF (DC (St.all _) (W.mono (λb hb=>hsF.1 b hb) (λ_ _=>rfl)) bz) λfb fc fd eo dp dq p=>?_
      have b0:=p
      have am:=hsF.join dq b0 ⟨OS.flat (λ{_ _ _ _ _ _} k=>k),trivial⟩
      simp only[List.cons_append,List.nil_append] at am
      obtain⟨fe,b1,dr,ds⟩:=am.pubs .head
      have an:=Fz.done o (dp.trans dr) b1
      exact Cm an.1 (Sl.mono' ds an.2)
     refine A3.cons O ?_ ?_
     ·intro mq H o
      intro ff dt fg du dv ae
      have hsN:=SN.st d o
      obtain⟨rfl,dw⟩:=dt
      obtain⟨rfl,dx⟩:=du
      have ae:Sl _ _ AM.int dv s:=ae
      refine AG 1 ?_
      obtain⟨b2,ay,rfl,fh⟩:=(ae).len
      exact HA (cs:=[vI g.At,vI g.To,(.slice b2 s.length ay)]) Vl O O O (AO (Ap.mk (x:=({ g with Part:=s}:Al)) dw dx ae))
     refine A3.cons O ?_ ?_
     ·intro mq H o
      intro dy ao
      have hsN:=SN.st d o
      have ao:Rd _ _ Ap dy ({ g with Part:=s}:Al):=ao
      have hsF:=hsN.fz
      obtain⟨fi,rfl,dz,d0,a7⟩:=Ap.ex ao
      obtain⟨b3,az,rfl,fj⟩:=(a7).len
      refine DY (cs:=[vI (({ g with Part:=s}:Al).At),vI (({ g with Part:=s}:Al).To),(.slice b3 (({ g with Part:=s}:Al).Part).length az)]) NN O O O O O O O hsF λfk fl b4 a8=>?_
      have d1:=a7.mono' a8
      have b5:=b4.bxos (r:=Ap) (l:=([({ g with Part:=s}:Al)]:List Al)) .head ⟨_,_,O,⟨_,O,dz,d0,d1⟩,O⟩ (by simp [maxLen])
      obtain⟨fm,b6,d2,d3⟩:=b5.pubs .head
      have ap:=Fz.done o (a8.trans d2) b6
      exact Cm ap.1 ⟨Sl.mono' d3 ap.2,_,O⟩
     exact trivial
    intro fn a9 fo d4 fp aq
    have b7:=SN.st d a9
    cases d4
    obtain⟨aq,ep,rfl⟩:=aq
    obtain⟨b8,E⟩:=Lr E
    refine JJ (r:=Ap) (l:=Y) (xs:=([({ g with Part:=s}:Al)]:List Al)) O O NN O (Sl.src aq) O b8 O b7 (λ_=>(.tail .head)) λd5 fq b9 d6=>AG 1 (AY O (AF (AZ (kp [9,33,32,8,2,1,34] O) (WF.nil (λF G y C=>?_)))))
    have ca:=b9.sel [1,1] 1 O
    exact⟨d5,(Y++([({ g with Part:=s}:Al)]:List Al)),Z,_,_,y.sub (kp [33,32,8,2,1,34,9] O),C,ca,(bj.trans (ax.trans ((SN.ext d.1 a9).trans d6))),E⟩
   rintro F G ⟨au,av,aw,fr,fs,y,C,cb,d7,E⟩
   refine Ac ?_ y C
   clear y C G F
   rw[Ie] at E
   refine BZ (.inl O) (Ai O (AA O (AN (kp [34,33,32,8,2,1,9] O) (WF.nil (λF G y C=>?_)))))
   exact⟨au,av,(BD (K+1)),aw,_,_,y.sub (kp [33,32,8,2,1,9,34] O),C,cb,(bi.trans d7),(BK _),E⟩
  refine BC O (λF G y C=>?_)
  exact⟨M,Y,Z,_,_,y.sub (kp [8,9] O),C,ag,bi,E⟩
 rintro F G ⟨bf,bg,bh,ft,fu,y,C,cc,d8,E⟩
 refine Ac ?_ y C
 clear y C G F
 rw[Gw] at E
 refine AI (AA O (AA O (AY O (AK O (kp [9,8] O) (Ad (λF G y C=>?_))))))
 have cd:=cc.sel [1,0] 0 O
 cases E
 exact KH y O C (IK (I1 y (v:=_) O) (IK (I1 y (v:=_) O) KG)) O (e6.trans (ch.trans (cj.trans (ct.trans d8)))) ⟨_,_,O,cd⟩
end Go.Proofs.YtblcgjadhemlbaaGreat
