import Derived.Test.YtblcgjadhemlbaaGreatTWalk7
namespace Go.Proofs.YtblcgjadhemlbaaGreat
open Go.RowKit
set_option linter.unusedVariables false
set_option linter.unusedSimpArgs false
set_option maxRecDepth 10000
set_option maxHeartbeats 2000000
variable {N:Nat}{S:Nat→Prop}{L:List HP}{h:Aw}
theorem NM {u:Nat}{p0_w:An}{M:Value}{Q:Value}{U:Value}{V:Value}{W:Value}{X:Value}{Y:Value}{Z:Value}{F:Value}{G:Value}{H:Value}{I:Value}{J:Value}{t:Value}{c:Value}{A:Value}{d:Value}{z:Value}{g:Value}{K:Value}{k:Value}{p:Value}(hs:St S (Bx u 84 [.string p0_w.b.Name,M,vI p0_w.b.Cells,Q,U,V,W,X,Y,Z,vI p0_w.b.Err,F,G,H,I,J,vI p0_w.s.Hour,t,c,A,d,z,g,K,k,p]::OO AN.int 3 29 t p0_w.s.Own::OS AN.int 3 c p0_w.s.Rem::OS BE 69 d p0_w.s.Gates::OS AN.int 3 z p0_w.s.In::OS AN.int 3 g p0_w.s.Out::OS BJ 50 K p0_w.moves::OS AN.int 3 k p0_w.peaks::OS Ar 60 p p0_w.sent::L) h) (db:p0_w.b.Name.size≤maxLen) (a7:Sl S h AN.str M p0_w.b.Owners) (dc:AE p0_w.b.Cells) (a8:Sl S h B1 Q p0_w.b.Places) (dd:Sl S h Bv U p0_w.b.Links) (de:Sl S h GQ V p0_w.b.Towns) (df:Sl S h EV W p0_w.b.Gauges) (dg:Sl S h Fp X p0_w.b.Roads) (dh:Sl S h Cx Y p0_w.b.Shelters) (di:Sl S h AN.int Z p0_w.b.Room) (ca:AE p0_w.b.Err) (ai:Sl S h AN.int F p0_w.in_.Rain) (cb:Sl S h FM G p0_w.in_.Faults) (cc:Sl S h Ic H p0_w.in_.Cmds) (cd:Sl S h FO I p0_w.in_.Takes) (ce:Sl S h GC J p0_w.in_.Swaps) (av:AE p0_w.s.Hour) (aw:Sl S h Ar A p0_w.s.Queue) {r:(List (List Int))×(List Int)×(List Ah)}(E:Hc N p0_w=some r):
 CL Tryz.prog 32 #[vP u 0] S h (λv S' h'=>∃w_0_17 w_0_21 w_0_23:Value,v= .tuple #[]∧St S' (Bx u 84 [.string p0_w.b.Name,M,vI p0_w.b.Cells,Q,U,V,W,X,Y,Z,vI p0_w.b.Err,F,G,H,I,J,vI p0_w.s.Hour,w_0_17,c,A,d,w_0_21,g,w_0_23,k,p]::OO AN.int 3 29 w_0_17 r.1::OS AN.int 3 c p0_w.s.Rem::OS BE 69 d p0_w.s.Gates::OS AN.int 3 w_0_21 r.2.1::OS AN.int 3 g p0_w.s.Out::OS BJ 50 w_0_23 r.2.2::OS AN.int 3 k p0_w.peaks::OS Ar 60 p p0_w.sent::L) h'):=by
 refine BF (l:=[vP u 0]) 137 Tryz.func32 O Tryz.ntmps32 O λB=>?_
 rw[Hc] at E
 refine AH (AL O (kp [2,0] O) (AC (AH (AA O (CN O O (AD CZ O (AD D2 O (AT A6 hs O mh O G9 O (Xh hs (mt mh) O E3 O λb1=>AA O (AM (kp [17,16,15,2,0] O) (Aj (λa w=>∃(i2:Int),IV B S h (137,[]) a w [(0,vP u 0),(2,vI i2)] (Bx u 84 [.string p0_w.b.Name,M,vI p0_w.b.Cells,Q,U,V,W,X,Y,Z,vI p0_w.b.Err,F,G,H,I,J,vI p0_w.s.Hour,t,c,A,d,z,g,K,k,p]::OO AN.int 3 29 t p0_w.s.Own::OS AN.int 3 c p0_w.s.Rem::OS BE 69 d p0_w.s.Gates::OS AN.int 3 z p0_w.s.In::OS AN.int 3 g p0_w.s.Out::OS BJ 50 K p0_w.moves::OS AN.int 3 k p0_w.peaks::OS Ar 60 p p0_w.sent::L) λ_ _=>AE i2∧DR N p0_w i2=some r) ?_ ?_)))))))))))
 ·refine A3 (λn1=>λa w=>∃(i8:Int) (bb:Int),IV B S h (137,[]) a w [(16,vI (↑p0_w.s.Own.length:Int)),(15,t),(0,vP u 0),(2,vI i8),(17,vI bb)] (Bx u 84 [.string p0_w.b.Name,M,vI p0_w.b.Cells,Q,U,V,W,X,Y,Z,vI p0_w.b.Err,F,G,H,I,J,vI p0_w.s.Hour,t,c,A,d,z,g,K,k,p]::OO AN.int 3 29 t p0_w.s.Own::OS AN.int 3 c p0_w.s.Rem::OS BE 69 d p0_w.s.Gates::OS AN.int 3 z p0_w.s.In::OS AN.int 3 g p0_w.s.Out::OS BJ 50 K p0_w.moves::OS AN.int 3 k p0_w.peaks::OS Ar 60 p p0_w.sent::L) λ_ _=>AE i8∧AE bb∧DP N p0_w (DR N p0_w) n1 i8 bb=some r) N ?_ ?_ ?_
  ·intro aa ww hf hw
   exact⟨0,0,_,_,hf.sub (kp [16,15,0,2,17] O),hw,hs,(B9.refl S h),(iq (n:=0) O),(iq (n:=0) O),E⟩
  ·rintro aa ww ⟨_,_,_,_,_,_,_,_,_,_,E⟩
   rw[DP] at E;cases E
  rintro n1 aa ww ⟨i8,bb,g5,g6,hf,hw,ay,dj,r9,g7,E⟩
  refine Ac ?_ hf hw
  clear hf hw ww aa
  rw[DP] at E
  refine AH (Ao O (AM (kp [18,16,15,0,2,17] O) (AC (AX O E (λfg E=>?_) (λfg E=>?_)))))
  ·refine AO (AC (A8 (AH ?_)))
   obtain⟨g8,dk,E⟩:=bd E
   refine N3 (r:=AN.int) ay (mt mh) O O E3 dk O λg9 dl=>?_
   obtain⟨ha,dm,E⟩:=bd E
   refine R9 (r:=AN.int) A6 ay (mt mh) O dm dl BX O λhc fx fh=>AL O (kp [4,16,15,0,2,17] O) (Bt (.inl O) ay (AA O (AA O ?_)))
   obtain⟨fi,dn,E⟩:=bd E
   refine CX O O O NG O (λh' o=>Ek (St.all h') (fh.mono (λb hb=>Nat.lt_of_lt_of_le hb o.siz) (λb hb=>o.same b hb)) dn) λfj=>?_
   have hd:=fj
   refine Ai O (AY O (BQ (kp [2,16,15,0,17] O) λhe dp fk=>BP (BY (.inl O) (Ai O (AA O (AM (kp [17,2,16,15,0] O) (WF.nil (λaa ww hf hw=>?_))))))))
   exact⟨(BM (i8+fi)),(BM (bb+1)),_,_,hf.sub (kp [16,15,0,2,17] O),hw,dp,(dj.trans fk),(BG _),(BG _),E⟩
  refine BA O (λaa ww hf hw=>?_)
  exact⟨i8,_,_,hf.sub (kp [0,2] O),hw,ay,dj,r9,E⟩
 rintro aa ww ⟨i2,cf,cg,hf,hw,bz,a9,r3,E⟩
 refine Ac ?_ hf hw
 clear hf hw ww aa
 rw[DR] at E
 refine AC (AH (AA O (CN O O (AD CZ O (AD IL O (AT A6 bz O mh O Ju O ?_))))))
 have dq:=aw.mono' a9
 refine Ak O dq Im O λhg=>AA O (AM (kp [32,31,30,0,2] O) (Aj (λa w=>∃(bc:Int),IV B cf cg (137,[]) a w [(0,vP u 0),(2,vI bc)] (Bx u 84 [.string p0_w.b.Name,M,vI p0_w.b.Cells,Q,U,V,W,X,Y,Z,vI p0_w.b.Err,F,G,H,I,J,vI p0_w.s.Hour,t,c,A,d,z,g,K,k,p]::OO AN.int 3 29 t p0_w.s.Own::OS AN.int 3 c p0_w.s.Rem::OS BE 69 d p0_w.s.Gates::OS AN.int 3 z p0_w.s.In::OS AN.int 3 g p0_w.s.Out::OS BJ 50 K p0_w.moves::OS AN.int 3 k p0_w.peaks::OS Ar 60 p p0_w.sent::L) λ_ _=>AE bc∧DQ N p0_w bc=some r) ?_ ?_))
 ·refine A3 (λn3=>λa w=>∃(ba:Int) (be:Int),IV B cf cg (137,[]) a w [(31,vI (↑p0_w.s.Queue.length:Int)),(30,A),(0,vP u 0),(2,vI ba),(32,vI be)] (Bx u 84 [.string p0_w.b.Name,M,vI p0_w.b.Cells,Q,U,V,W,X,Y,Z,vI p0_w.b.Err,F,G,H,I,J,vI p0_w.s.Hour,t,c,A,d,z,g,K,k,p]::OO AN.int 3 29 t p0_w.s.Own::OS AN.int 3 c p0_w.s.Rem::OS BE 69 d p0_w.s.Gates::OS AN.int 3 z p0_w.s.In::OS AN.int 3 g p0_w.s.Out::OS BJ 50 K p0_w.moves::OS AN.int 3 k p0_w.peaks::OS Ar 60 p p0_w.sent::L) λ_ _=>AE ba∧AE be∧DO N p0_w (DQ N p0_w) n3 ba be=some r) N ?_ ?_ ?_
  ·intro aa ww hf hw
   exact⟨i2,0,_,_,hf.sub (kp [31,30,0,2,32] O),hw,bz,(B9.refl cf cg),r3,(iq (n:=0) O),E⟩
  ·rintro aa ww ⟨_,_,_,_,_,_,_,_,_,_,E⟩
   rw[DO] at E;cases E
  rintro n3 aa ww ⟨ba,be,hi,hj,hf,hw,bf,ch,fl,hk,E⟩
  refine Ac ?_ hf hw
  clear hf hw ww aa
  rw[DO] at E
  refine AH (Ao O (AM (kp [33,31,30,0,2,32] O) (AC (AX O E (λfm E=>?_) (λfm E=>?_)))))
  ·refine AO (AC (A8 (WF.sl (AI 2 ?_))))
   obtain⟨bu,dr,E⟩:=bd E
   refine A9 O O (dq.mono' ch) Im dr O λhl fn=>B6 A6 bf.1 O fn Kx (λe=>by cases e) O λhm fo=>AG (Cn QY O bf λhn ho ds dt=>?_)
   obtain⟨du,rfl,hp,hq,dv⟩:=Ar.ex (fo.mono dt)
   refine HM (vs:=[vI bu.At,vI bu.To,du]) (cs':=[vI bu.At,vI bu.To,du]) O O O (AF O (AF O (AF dv.one EG))) Kx O ds .head O O λht bg dw=>AZ (kp [6,31,30,0,2,32] O) (Bt (.inl O) bg (AA O (AD KU O (AT Bg bg O mh O BX O ?_))))
   obtain⟨fp,dx,E⟩:=bd E
   refine CX O O O NG O (λh' o=>Ek (St.all h') ((dv.mono' dw).mono' (o.all bg.1)) dx) λfq=>?_
   have hu:=fq
   refine Ai O (AY O (BQ (kp [2,31,30,0,32] O) λhv dy fr=>BP (BY (.inl O) (Ai O (AA O (AM (kp [32,2,31,30,0] O) (WF.nil (λaa ww hf hw=>?_))))))))
   have dz:=dy.sel [1,1,1,1,1,1,1,1,1] 1 O
   exact⟨(BM (ba+fp)),(BM (be+1)),_,_,hf.sub (kp [31,30,0,2,32] O),hw,dz,(ch.trans (dt.trans (dw.trans fr))),(BG _),(BG _),E⟩
  refine BA O (λaa ww hf hw=>?_)
  exact⟨ba,_,_,hf.sub (kp [0,2] O),hw,bf,ch,fl,E⟩
 rintro aa ww ⟨bc,d0,hx,hf,hw,bh,bi,fs,E⟩
 refine Ac ?_ hf hw
 clear hf hw ww aa
 rw[DQ] at E
 refine AC (Bt (.inl O) bh (AA O (CN O O (AD CZ O (AD KX O (AT Bg bh O mh O BX O ?_))))))
 obtain⟨ft,d1,E⟩:=bd E
 refine CX O O O NG O (λh' o=>Ek (St.all h') ((bh.oslAll (mt (mt (mt (mt mh))))).mono (λb hb=>Nat.lt_of_lt_of_le hb o.siz) (λb hb=>o.same b hb)) d1) λfu=>?_
 have fv:=fu
 refine AY O (BQ (kp [7,0,2] O) λd2 b0 bj=>AH (AA O (CN O O (AD GE O (AD C0 O (AT A6 b0 O mh O Fq O (Ak O (a8.mono' (a9.trans (bi.trans bj))) Ez O λhy=>AA O (AM (kp [54,53,7,0,2] O) (A8 (A3 (λn4=>λa w=>∃(ae:Int) (af:Int) (C:Int) (aj:Value) (ac:List Ah) (ak:List (List Int)) (ah:List Int),IV B d0 d2 (137,[]) a w [(53,vI (↑p0_w.b.Places.length:Int)),(0,vP u 0),(2,vI ae),(7,vI af),(54,vI C)] (OS BJ 50 aj ac::Bx u 84 [.string p0_w.b.Name,M,vI p0_w.b.Cells,Q,U,V,W,X,Y,Z,vI p0_w.b.Err,F,G,H,I,J,vI p0_w.s.Hour,t,c,A,d,z,g,aj,k,p]::OO AN.int 3 29 t ak::OS AN.int 3 c p0_w.s.Rem::OS BE 69 d p0_w.s.Gates::OS AN.int 3 z ah::OS AN.int 3 g p0_w.s.Out::OS AN.int 3 k p0_w.peaks::OS Ar 60 p p0_w.sent::L) λ_ _=>AE ae∧AE af∧AE C∧CI N p0_w n4 ae af C ac ak ah=some r) N ?_ ?_ ?_))))))))))
 ·intro aa ww hf hw
  have ci:=b0.sel [6,0,0,0,0,0,0,0,0] 0 O
  exact⟨bc,ft,0,K,p0_w.moves,p0_w.s.Own,p0_w.s.In,_,_,hf.sub (kp [53,0,2,7,54] O),hw,ci,(B9.refl d0 d2),fs,fv,(iq (n:=0) O),E⟩
 ·rintro aa ww ⟨_,_,_,_,_,_,_,_,_,_,_,_,_,_,_,_,E⟩
  rw[CI] at E;cases E
 rintro n4 aa ww ⟨ae,af,C,aj,ac,ak,ah,az,a0,hf,hw,ag,ap,d3,d4,d5,E⟩
 refine Ac ?_ hf hw
 clear hf hw ww aa
 rw[CI] at E
 refine AH (Ao O (AM (kp [55,53,0,2,7,54] O) (AC (AX O E (λd6 E=>?_) (λd6 E=>?_)))))
 ·refine AO (AC (Aj (λa w=>∃(aq:Int) (ar:Int) (a1:Value) (a2:List Ah) (a3:List (List Int)) (a4:List Int),IV B az a0 (137,[]) a w [(53,vI (↑p0_w.b.Places.length:Int)),(0,vP u 0),(54,vI C),(2,vI aq),(7,vI ar)] (OS BJ 50 a1 a2::Bx u 84 [.string p0_w.b.Name,M,vI p0_w.b.Cells,Q,U,V,W,X,Y,Z,vI p0_w.b.Err,F,G,H,I,J,vI p0_w.s.Hour,t,c,A,d,z,g,a1,k,p]::OO AN.int 3 29 t a3::OS AN.int 3 c p0_w.s.Rem::OS BE 69 d p0_w.s.Gates::OS AN.int 3 z a4::OS AN.int 3 g p0_w.s.Out::OS AN.int 3 k p0_w.peaks::OS Ar 60 p p0_w.sent::L) λ_ _=>AE aq∧AE ar∧EZ N C (CI N p0_w n4) aq ar a2 a3 a4=some r) ?_ ?_))
  ·refine AH (AA O (AL O (kp [8,53,0,2,7,54] O) (AH (AL O (kp [9,8,53,0,2,7,54] O) (AC (AH (AA O (AA O (CN O O (AD Ms O (AD Rq O (AT A6 ag O (mt mh) O BX O (Ak O (ai.mono' (a9.trans (bi.trans (bj.trans ap)))) BR O λfy=>Ao O (AM (kp [64,9,8,53,0,2,7,54] O) (Ga (λa w=>∃(D:Int),IV B az a0 (137,[]) a w [(8,vI C),(53,vI (↑p0_w.b.Places.length:Int)),(0,vP u 0),(2,vI ae),(7,vI af),(54,vI C),(9,vI D)] (OS BJ 50 aj ac::Bx u 84 [.string p0_w.b.Name,M,vI p0_w.b.Cells,Q,U,V,W,X,Y,Z,vI p0_w.b.Err,F,G,H,I,J,vI p0_w.s.Hour,t,c,A,d,z,g,aj,k,p]::OO AN.int 3 29 t ak::OS AN.int 3 c p0_w.s.Rem::OS BE 69 d p0_w.s.Gates::OS AN.int 3 z ah::OS AN.int 3 g p0_w.s.Out::OS AN.int 3 k p0_w.peaks::OS Ar 60 p p0_w.sent::L) λ_ _=>AE D∧Fa N p0_w ae af C ac ak ah (EZ N C (CI N p0_w n4)) D=some r) ?_ ?_)))))))))))))))
   ·refine AX O E (λd7 E=>?_) (λd7 E=>?_)
    ·refine BY (.inl O) (AA O (CN O O (AD Ms O (AD Rq O (AT A6 ag O (mt mh) O BX O (AA O ?_))))))
     obtain⟨d8,cj,E⟩:=bd E
     refine A9 O O (ai.mono' (a9.trans (bi.trans (bj.trans ap)))) BR cj O λf0 d9=>Ag A6 ag.1 O d9 Ae O λea=>AA O (Cz O (AA O (Cz O (Yp O O O O (AL O (kp [9,8,53,0,2,7,54] O) (WF.nil (λaa ww hf hw=>?_)))))))
     exact⟨(min (min d8 (BM (1125899906842624-ae))) (BM (1152921504606846976-af))),_,_,hf.sub (kp [8,53,0,2,7,54,9] O),hw,ag,(B9.refl az a0),(Kb (Kb ea (BG _)) (BG _)),E⟩
    refine AO (WF.nil (λaa ww hf hw=>?_))
    exact⟨0,_,_,hf.sub (kp [8,53,0,2,7,54,9] O),hw,ag,(B9.refl az a0),(iq (n:=0) O),E⟩
   rintro aa ww ⟨D,f1,f2,hf,hw,am,bk,eb,E⟩
   refine Ac ?_ hf hw
   clear hf hw ww aa
   rw[Fa] at E
   refine AC (AH (AA O (Fv O (AM (kp [79,8,53,0,2,7,54,9] O) (AX O E (λec E=>?_) (λec E=>?_))))))
   ·refine BA O (λaa ww hf hw=>?_)
    exact⟨ae,af,aj,ac,ak,ah,_,_,hf.sub (kp [53,0,54,2,7] O),hw,am,bk,d3,d4,E⟩
   refine AO (WF.sl (AI 13 (AA O (CN O O (AD CZ O (AD D2 O (AT A6 am O (mt mh) O G9 O (AA O ?_))))))))
   obtain⟨f3,ck,E⟩:=bd E
   refine N3 (r:=AN.int) am (mt (mt mh)) O O E3 ck O λf4 bl=>?_
   obtain⟨ed,bm,E⟩:=bd E
   refine R9 (r:=AN.int) A6 am (mt (mt mh)) O bm bl BX O λf5 cl b2=>?_
   obtain⟨bn,cm,E⟩:=bd E
   refine Uw O O b2 BR cm O λf6 ee ff=>Ag A6 (λ_ x=>x) O ee Ae O λf7=>AA O (Ai O ?_)
   obtain⟨f8,bo,E⟩:=bd E
   refine Uw O O b2 BR bo O λf9 ga bv=>AG ?_
   have cn:=am.pick (.tail (.tail .head))
   refine Yw (r:=AN.int) (i:=C) (j:=0) (y:=(BM (bn+D))) O O (⟨_,O,O,(BG _)⟩:Rd _ _ AN.int _ (BM (bn+D))) bl cl bv bm bo Ae (λ_=>rfl) cn λgb an b3=>AZ (kp [8,53,0,2,7,54,9] O) (WF.sl (AI 10 (AA O (CN O O (AD CZ O (AD KX O (AT A6 an O (mt (mt mh)) O BX O ?_)))))))
   obtain⟨gc,co,E⟩:=bd E
   refine A0 an (mt (mt (mt (mt (mt mh))))) O O BR co O λgd cp=>?_
   obtain⟨b4,cq,E⟩:=bd E
   have ef:=an.epAt (mt (mt (mt (mt (mt mh))))) cq FL.id cp
   refine Ag A6 (λ_ x=>x) O ef Ae O λge=>AA O (Ai O ?_)
   obtain⟨gf,cr,E⟩:=bd E
   refine A0 an (mt (mt (mt (mt (mt mh))))) O O BR cr O λgg ct=>AG ?_
   obtain⟨eg,cu,E⟩:=bd E
   refine Er (r:=AN.int) (l:=ah) (i:=0) (x:=eg) O O (⟨_,O,O,(BG _)⟩:Rd _ _ AN.int _ (BM (b4+D))) ct cu Lr.id Ae (λ_=>rfl) an (.tail (.tail (.tail (.tail (.tail .head))))) λgh bp b5=>AZ (kp [8,53,0,2,7,54,9] O) (AH (AA O (AA O (Ai O (AL O (kp [2,8,53,0,7,54,9] O) (AH (AA O (AA O (Ai O (AL O (kp [7,2,8,53,0,54,9] O) (WF.sl (AI 6 (AA O (CN O O (AD GE O (AD HT O (AT A6 bp O (mt (mt mh)) O KI O (Ak O (a7.mono' (a9.trans (bi.trans (bj.trans (ap.trans (bk.trans (b3.trans b5))))))) Jx O λgi=>AG ?_))))))))))))))))))
   obtain⟨cv,E⟩:=MU E
   refine JD (r:=AN.int) (zx:=0) FJ O ⟨O,by unfold AE;omega⟩ O O cv O O bp λeh gj bq ei=>AI 1 (AY O (AG (AZ (kp [10,7,2,8,53,0,54,9] O) (WF.sl (AI 3 (AA O (AA O ?_)))))))
   obtain⟨gk,cw,E⟩:=bd E
   refine A0 bq mh O O BR cw O λgl cx=>AG ?_
   obtain⟨ej,cy,E⟩:=bd E
   refine Er (r:=AN.int) (l:=(List.replicate ((↑p0_w.b.Owners.length:Int):Int).toNat (0:Int))) (i:=0) (x:=ej) O O (⟨_,O,O,eb⟩:Rd _ _ AN.int _ D) cx cy Lr.id Ae (λ_=>rfl) bq .head λb6 cz ek=>AZ (kp [10,7,2,8,53,0,54] O) ?_
   obtain⟨a5,ab,el,em⟩:=cz.pubs .head
   refine Tx (m:=[(10,eh),(7,vI (BM (af+D))),(2,vI (BM (ae+D))),(8,vI C),(53,vI (↑p0_w.b.Places.length:Int)),(0,vP u 0),(54,vI C)]) 14 [0] (λi v hh=>match i with|0=>v=vP u 0|1=>v=vP u 0|2=>v=vP u 0|3=>v=vP u 23|4=>v=aj|5=>v=vP u 0|6=>v=vP u 0|7=>v=vP u 16|8=>v=vP u 16|9=>v=vI p0_w.s.Hour∧AE p0_w.s.Hour|10=>v=vI C∧AE C|11=>Sl a5 hh AN.int v (upd (List.replicate ((↑p0_w.b.Owners.length:Int):Int).toNat (0:Int)) 0 D)|12=>Rd a5 hh BJ v (⟨p0_w.s.Hour,(-1),C,(-4),(upd (List.replicate ((↑p0_w.b.Owners.length:Int):Int).toNat (0:Int)) 0 D)⟩:Ah)|13=>Sl (SN a5 b6 hh) hh BJ v ([(⟨p0_w.s.Hour,(-1),C,(-4),(upd (List.replicate ((↑p0_w.b.Owners.length:Int):Int).toNat (0:Int)) 0 D)⟩:Ah)]:List Ah)∧∃ad,v= .slice (some ad) 1 1|_=>False) [[],[],[(1,120)],[(2,121)],[(3,122)],[],[(5,124)],[(6,125)],[(7,126)],[(8,127)],[],[],[(9,128),(10,129),(11,130)],[(12,131)]] [(0,119),(4,123),(13,132)] mo (by kernel_rfl) [10,7,2,8,53,0,54] O (by kernel_rfl) (by kernel_rfl) (by kernel_rfl) (kp [10,7,2,8,53,0,54] O) (λi v h1 h2 o1 o2 hr=>?_) ?_ ?_ ?_
   ·match i,hr with
     |0,hr|1,hr|2,hr|3,hr|4,hr|5,hr|6,hr|7,hr|8,hr|9,hr|10,hr=>exact hr
     |11,hr=>exact Sl.mono' hr (o2.ext λb hb=>Nat.lt_of_lt_of_le (ab.1 b hb) o1.siz)
     |12,hr=>exact Rd.mono hr (o2.ext λb hb=>Nat.lt_of_lt_of_le (ab.1 b hb) o1.siz)
     |13,hr=>exact⟨Sl.mono' hr.1 (SN.mono ab.1 o1 o2),hr.2⟩
     |_+14,hr=>exact hr.elim
   ·refine QE.cons [] (by kernel_rfl) O O (by kernel_rfl) ?_ ?_
    ·intro mq hh o
     intro a hf
     exact⟨vP u 0,N9 hf O,O⟩
    exact trivial
   ·refine A7.cons O (λ_ _ _=>AI 1 (AA O (AQ O))) (A7.cons O (λ_ _ _=>AI 1 (AA O (AQ O))) (A7.cons O (λ_ _ _ _ en=>by cases en;exact AI 1 (CN O O (AQ O))) (A7.cons O (λ_ _ _ _ eo=>by cases eo;exact AI 1 (AD Np O (AQ O))) (A7.cons O (λ_ _ o _ ep=>by cases ep;exact AI 1 (AT A6 (o.st ab) O (mt (mt mh)) O SL O (AQ O))) (A7.cons O (λ_ _ _=>AI 1 (AA O (AQ O))) (A7.cons O (λ_ _ _ _ eq=>by cases eq;exact AI 1 (CN O O (AQ O))) (A7.cons O (λ_ _ _ _ er=>by cases er;exact AI 1 (AD CZ O (AQ O))) (A7.cons O (λ_ _ _ _ es=>by cases es;exact AI 1 (AD IM O (AQ O))) (A7.cons O (λ_ _ o _ et=>by cases et;exact AI 1 (AT A6 (o.st ab) O (mt (mt mh)) O Ae O (AQ ⟨O,av⟩))) (A7.cons O (λ_ _ _=>AI 1 (AA O (AQ ⟨O,d5⟩))) (A7.cons O (λ_ _ o=>AI 1 (AA O (AQ (em.mono' (o.ext ab.1))))) ?_)))))))))))
    refine A7.cons O ?_ ?_
    ·intro mq hh o
     intro gm eu gn ev ew a6
     have hsN:=o.st ab
     obtain⟨rfl,ey⟩:=eu
     obtain⟨rfl,ez⟩:=ev
     have a6:Sl _ _ AN.int ew (upd (List.replicate ((↑p0_w.b.Owners.length:Int):Int).toNat (0:Int)) 0 D):=a6
     refine AI 1 ?_
     obtain⟨c0,bw,rfl,gp⟩:=(a6).len
     exact H1 (cs:=[vI p0_w.s.Hour,vI (-1),vI C,vI (-4),(.slice c0 (upd (List.replicate ((↑p0_w.b.Owners.length:Int):Int).toNat (0:Int)) 0 D).length bw)]) ZD O O O (AQ (BJ.mk (x:=(⟨p0_w.s.Hour,(-1),C,(-4),(upd (List.replicate ((↑p0_w.b.Owners.length:Int):Int).toNat (0:Int)) 0 D)⟩:Ah)) ey (iq (n:=(-1)) O) ez (iq (n:=(-4)) O) a6))
    refine A7.cons O ?_ ?_
    ·intro mq hh o
     intro e0 au
     have hsN:=SN.st ab o
     have au:=Rd.mono (S':=(SN a5 b6 hh)) au ⟨λb hb=> .inl hb,λ_ _=>rfl,Nat.le_refl _⟩
     have au:Rd _ _ BJ e0 (⟨p0_w.s.Hour,(-1),C,(-4),(upd (List.replicate ((↑p0_w.b.Owners.length:Int):Int).toNat (0:Int)) 0 D)⟩:Ah):=au
     have hsF:=hsN.fz
     obtain⟨gq,rfl,e1,e2,e3,e4,b7⟩:=BJ.ex au
     obtain⟨c1,bx,rfl,gr⟩:=(b7).len
     refine D0 (cs:=[vI ((⟨p0_w.s.Hour,(-1),C,(-4),(upd (List.replicate ((↑p0_w.b.Owners.length:Int):Int).toNat (0:Int)) 0 D)⟩:Ah).Hour),vI ((⟨p0_w.s.Hour,(-1),C,(-4),(upd (List.replicate ((↑p0_w.b.Owners.length:Int):Int).toNat (0:Int)) 0 D)⟩:Ah).From),vI ((⟨p0_w.s.Hour,(-1),C,(-4),(upd (List.replicate ((↑p0_w.b.Owners.length:Int):Int).toNat (0:Int)) 0 D)⟩:Ah).To),vI ((⟨p0_w.s.Hour,(-1),C,(-4),(upd (List.replicate ((↑p0_w.b.Owners.length:Int):Int).toNat (0:Int)) 0 D)⟩:Ah).Way),(.slice c1 ((⟨p0_w.s.Hour,(-1),C,(-4),(upd (List.replicate ((↑p0_w.b.Owners.length:Int):Int).toNat (0:Int)) 0 D)⟩:Ah).Part).length bx)]) Uo O O O O O O O hsF λgs gt c2 b8=>?_
     have e5:=b7.mono' b8
     have c3:=c2.bxos (r:=BJ) (l:=([(⟨p0_w.s.Hour,(-1),C,(-4),(upd (List.replicate ((↑p0_w.b.Owners.length:Int):Int).toNat (0:Int)) 0 D)⟩:Ah)]:List Ah)) .head ⟨_,_,O,⟨_,O,e1,e2,e3,e4,e5⟩,O⟩ (by simp [maxLen])
     obtain⟨gu,c4,e6,e7⟩:=c3.pubs .head
     have br:=Fz.done o (b8.trans e6) c4
     exact C1 br.1 ⟨Sl.mono' e7 br.2,_,O⟩
    exact trivial
   intro gv b9 gw e8 gx e9 gy bs
   have c5:=SN.st ab b9
   cases e8
   cases e9
   obtain⟨bs,fw,rfl⟩:=bs
   obtain⟨c6,E⟩:=MU E
   refine JT (r:=BJ) (l:=ac) (xs:=([(⟨p0_w.s.Hour,(-1),C,(-4),(upd (List.replicate ((↑p0_w.b.Owners.length:Int):Int).toNat (0:Int)) 0 D)⟩:Ah)]:List Ah)) O O Uo O (Sl.src bs) O c6 O c5 (λ_=>(.tail .head)) λgz g0 bt fa=>AI 2 (CN O O (AD Np O (AG ?_)))
   obtain⟨ax,ao,rfl,g1⟩:=bt.oslen (mt mh)
   refine H2 (vs:=[(.slice ax (ac++([(⟨p0_w.s.Hour,(-1),C,(-4),(upd (List.replicate ((↑p0_w.b.Owners.length:Int):Int).toNat (0:Int)) 0 D)⟩:Ah)]:List Ah)).length ao)]) (cs':=[.string p0_w.b.Name,M,vI p0_w.b.Cells,Q,U,V,W,X,Y,Z,vI p0_w.b.Err,F,G,H,I,J,vI p0_w.s.Hour,t,c,A,d,z,g,(.slice ax (ac++([(⟨p0_w.s.Hour,(-1),C,(-4),(upd (List.replicate ((↑p0_w.b.Owners.length:Int):Int).toNat (0:Int)) 0 D)⟩:Ah)]:List Ah)).length ao),k,p]) O O O O SL O bt (.tail (.tail .head)) O O λg2 c7 fb=>AZ (kp [7,2,53,0,54] O) (WF.nil (λaa ww hf hw=>?_))
   have c8:=c7.sel [1,1,0,0,0,0,0,0,0] 0 O
   exact⟨(BM (ae+D)),(BM (af+D)),(.slice ax (ac++([(⟨p0_w.s.Hour,(-1),C,(-4),(upd (List.replicate ((↑p0_w.b.Owners.length:Int):Int).toNat (0:Int)) 0 D)⟩:Ah)]:List Ah)).length ao),(ac++([(⟨p0_w.s.Hour,(-1),C,(-4),(upd (List.replicate ((↑p0_w.b.Owners.length:Int):Int).toNat (0:Int)) 0 D)⟩:Ah)]:List Ah)),(upd ak C (upd ed 0 (BM (bn+D)))),(upd ah 0 (BM (b4+D))),_,_,hf.sub (kp [53,0,54,2,7] O),hw,c8,(bk.trans (b3.trans (b5.trans (ei.trans (ek.trans (el.trans ((SN.ext ab.1 b9).trans (fa.trans fb)))))))),(BG _),(BG _),E⟩
  rintro aa ww ⟨aq,ar,a1,a2,a3,a4,g3,g4,hf,hw,c9,fc,fd,fe,E⟩
  refine Ac ?_ hf hw
  clear hf hw ww aa
  rw[EZ] at E
  refine BY (.inl O) (Ai O (AA O (AM (kp [54,53,0,2,7] O) (WF.nil (λaa ww hf hw=>?_)))))
  exact⟨aq,ar,(BM (C+1)),a1,a2,a3,a4,_,_,hf.sub (kp [53,0,2,7,54] O),hw,c9,(ap.trans fc),fd,fe,(BG _),E⟩
 refine J8 O (WF.nil (λaa ww hf hw=>?_))
 have da:=ag.sel [1,1,1,1,1,1,0,0,0] 0 O
 cases E
 exact KD hf O hw KC O (a9.trans (bi.trans (bj.trans ap))) ⟨_,_,_,O,da⟩
theorem Lf (hs:St S L h) {g:Value}{c:(List Int)}(m:Sl S h AN.int g c) {b:Value}{d:(List Int)}(o:Sl S h AN.int b d) {r:(List Int)}(E:GN N c d=some r):
 CL Tryz.prog 16 #[g,b] S h (λv S' h'=>St S' (OS AN.int 3 v r::L) h'):=by
 refine BF (l:=[g,b]) 35 Tryz.func16 O Tryz.ntmps16 O λB=>?_
 rw[GN] at E
 refine AH (AL O (kp [0,1] O) (WF.sl (AI 5 (AA O (Ak O m BR O λb1=>AA O (Ak O o BR O λb2=>P7 O O O (AG ?_)))))))
 obtain⟨ab,E⟩:=MU E
 refine JD (r:=AN.int) (zx:=0) FJ O ⟨O,by unfold AE;omega⟩ O O ab O O hs λv4 h5 ac e7=>AI 1 (AY O (AG (AZ (kp [5,0,1] O) (WF.sl (AI 2 (AA O (AA O (AG (SB (r:=AN.int) (l:=(List.replicate ((max (↑c.length:Int) (↑d.length:Int)):Int).toNat (0:Int))) (xs:=c) O O BR (Sl.src (m.mono' e7)) O ac .head λh9 F G=>AZ (kp [5,1] O) (AC (AH (AA O ?_))))))))))))
 have H:=o.mono' (e7.trans G)
 refine Ak O H BR O λao=>AA O (AM (kp [19,18,17,5] O) (Aj (λa w=>∃(C:List Int),IV B S h9 (35,[]) a w [(5,v4)] (OS AN.int 3 v4 C::L) λ_ _=>Gc N C=some r) ?_ ?_))
 ·refine A3 (λn1=>λa w=>∃(k:Int) (s:List Int),IV B S h9 (35,[]) a w [(18,vI (↑d.length:Int)),(17,b),(5,v4),(19,vI k)] (OS AN.int 3 v4 s::L) λ_ _=>AE k∧Em N d (Gc N) n1 k s=some r) N ?_ ?_ ?_
  ·intro y z t u
   exact⟨0,(Mw (List.replicate ((max (↑c.length:Int) (↑d.length:Int)):Int).toNat (0:Int)) c),_,_,t.sub (kp [18,17,5,19] O),u,F,(B9.refl S h9),(iq (n:=0) O),E⟩
  ·rintro y z ⟨_,_,_,_,_,_,_,_,_,E⟩
   rw[Em] at E;cases E
  rintro n1 y z ⟨k,s,ap,aq,t,u,j,D,ar,E⟩
  refine Ac ?_ t u
  clear t u z y
  rw[Em] at E
  refine AH (Ao O (AM (kp [20,18,17,5,19] O) (AC (AX O E (λad E=>?_) (λad E=>?_)))))
  ·refine AO (AC (A8 (AH (AA O ?_))))
   obtain⟨au,I,E⟩:=bd E
   refine A9 O O (H.mono' D) BR I O λav ae=>Ag A6 j.1 O ae Ae O λaf=>AY O (AL O (kp [7,6,18,17,5,19] O) (EX (AI 7 (AA O (AA O (AA O (AA O ?_)))))))
   obtain⟨aw,J,E⟩:=bd E
   refine A0 j mh O O BR J O λax K=>?_
   obtain⟨ay,M,E⟩:=bd E
   have ag:=j.epAt mh M FL.id K
   refine Ag A6 (λ_ x=>x) O ag Ae O λah=>AA O (AG ?_)
   obtain⟨Q,U,E⟩:=bd E
   refine Bf O O O Qt O j (IH (St.all _) ah af U) λaz a0 a1 A ai a2 p=>?_
   obtain⟨rfl,aj,an⟩:=p
   refine AI 1 ?_
   obtain⟨a3,V,E⟩:=bd E
   refine A0 A mh O O BR V O λa4 W=>AG ?_
   obtain⟨ak,X,E⟩:=bd E
   refine Er (r:=AN.int) (l:=s) (i:=k) (x:=ak) O O (⟨_,O,O,aj⟩:Rd _ _ AN.int _ Q) W X Lr.id Ae (λ_=>rfl) A .head λa5 Y al=>AZ (kp [18,17,5,19] O) (BP (BY (.inl O) (Ai O (AA O (AM (kp [19,18,17,5] O) (WF.nil (λy z t u=>?_)))))))
   exact⟨(BM (k+1)),(upd s k Q),_,_,t.sub (kp [18,17,5,19] O),u,Y,(D.trans (ai.trans al)),(BG _),E⟩
  refine BA O (λy z t u=>?_)
  exact⟨s,_,_,t.sub (kp [5] O),u,j,D,E⟩
 rintro y z ⟨C,a6,a7,t,u,Z,am,E⟩
 refine Ac ?_ t u
 clear t u z y
 rw[Gc] at E
 refine AH (AA O (AL O (kp [4] O) (Ad (λy z t u=>?_))))
 cases E
 exact Dr t u O O (e7.trans (G.trans am)) Z
theorem QI (hs:St S L h) {j:Value}{A:(List Av)}(ac:Sl S h Ar j A) {c:Int}(ba:AE c) {t:Int}(I:AE t) {u:Int}(J:AE u) {r:(List (List Int))×(List Av)}(E:J2 N A c t u=some r):
 CL Tryz.prog 60 #[j,vI c,vI t,vI u] S h (λv S' h'=>∃ce cf:Value,v= .tuple #[ce,cf]∧St S' (OS (AN.sl AN.int) 29 ce r.1::OS Ar 60 cf r.2::L) h'):=by
 refine BF (l:=[j,vI c,vI t,vI u]) 79 Tryz.func60 O Tryz.ntmps60 O λB=>?_
 rw[J2] at E
 refine AH (AY O (AL O (kp [0,1,2,3] O) (AC (Bt (.inl O) hs (AA O ?_)))))
 obtain⟨y1,d9,E⟩:=bd E
 refine CX O O O Ur O (λh' o=>I8 (St.all h') I (iq (n:=0) O) (iq (n:=64) O) d9) λr2=>?_
 have r3:=r2
 refine AY O (BQ (kp [2,0,1,3] O) λh4 ea e6=>AC (Bt (.inl O) ea (AA O ?_)))
 obtain⟨y7,eb,E⟩:=bd E
 refine CX O O O Ur O (λh' o=>I8 (St.all h') J (iq (n:=0) O) (iq (n:=16) O) eb) λr8=>?_
 have r9:=r8
 refine AY O (BQ (kp [3,2,0,1] O) λfv cg ch=>WF.sl (AI 1 (AA O (AG ?_))))
 obtain⟨ci,E⟩:=MU E
 refine JD (r:=(AN.sl AN.int)) (zx:=[]) XG O ⟨_,O,.inl ⟨O,O⟩⟩ O O ci O O cg λz bb a0 cj=>AI 1 (AY O (AG (AZ (kp [8,3,2,0,1] O) (AC (AH (AA O (K7 a0 mh O E3 O λfw=>AA O (AM (kp [21,20,8,3,2,0,1] O) (Aj (λa w=>∃(ar:List (List Int)),IV B S bb (79,[]) a w [(8,z),(2,vI y1),(0,j),(1,vI c)] (OS (AN.sl AN.int) 29 z ar::L) λ_ _=>FW N A c y1 ar=some r) ?_ ?_)))))))))
 ·refine A3 (λn1=>λa w=>∃(X:Int) (af:List (List Int)),IV B S bb (79,[]) a w [(20,vI (↑(List.replicate (y1:Int).toNat ([]:(List Int))).length:Int)),(8,z),(3,vI y7),(2,vI y1),(0,j),(1,vI c),(21,vI X)] (OS (AN.sl AN.int) 29 z af::L) λ_ _=>AE X∧FV N y1 y7 (FW N A c y1) n1 X af=some r) N ?_ ?_ ?_
  ·intro F G y C
   exact⟨0,(List.replicate (y1:Int).toNat ([]:(List Int))),_,_,y.sub (kp [20,8,3,2,0,1,21] O),C,a0,(B9.refl S bb),(iq (n:=0) O),E⟩
  ·rintro F G ⟨_,_,_,_,_,_,_,_,_,E⟩
   rw[FV] at E;cases E
  rintro n1 F G ⟨X,af,fx,fy,y,C,a1,ck,f0,E⟩
  refine Ac ?_ y C
  clear y C G F
  rw[FV] at E
  refine AH (Ao O (AM (kp [22,20,8,3,2,0,1,21] O) (AC (AX O E (λec E=>?_) (λec E=>?_)))))
  ·refine AO (AC (A8 (AH (AA O (AL O (kp [10,20,8,3,2,0,1,21] O) (EX (AI 3 (AA O (AA O (AA O (AG ?_)))))))))))
   obtain⟨cl,E⟩:=MU E
   refine JD (r:=AN.int) (zx:=0) FJ O ⟨O,by unfold AE;omega⟩ O O cl O O a1 λf1 f2 a2 ed=>AI 1 ?_
   obtain⟨f3,cm,E⟩:=bd E
   refine A0 a2 (mt mh) O O E3 cm O λf4 cn=>AG ?_
   obtain⟨ee,co,E⟩:=bd E
   obtain⟨f5,cp,ef,eg⟩:=a2.pubs .head
   refine Er (r:=(AN.sl AN.int)) (l:=af) (i:=X) (x:=ee) O O (M0 eg) cn co Lr.id BX (λ_=>rfl) cp .head λf6 cq eh=>AZ (kp [20,8,3,2,0,1,21] O) (BP (BY (.inl O) (Ai O (AA O (AM (kp [21,20,8,3,2,0,1] O) (WF.nil (λF G y C=>?_)))))))
   exact⟨(BM (X+1)),(upd af X (List.replicate (y7:Int).toNat (0:Int))),_,_,y.sub (kp [20,8,3,2,0,1,21] O),C,cq,(ck.trans (ed.trans (ef.trans eh))),(BG _),E⟩
  refine BA O (λF G y C=>?_)
  exact⟨af,_,_,y.sub (kp [8,2,0,1] O),C,a1,ck,E⟩
 rintro F G ⟨ar,bc,be,y,C,cr,ct,E⟩
 refine Ac ?_ y C
 clear y C G F
 rw[FW] at E
 refine AH (AA O ?_)
 have a3:=e6.trans (ch.trans (cj.trans ct))
 refine Ym O O O (ac.mono' a3) Im O λa4=>?_
 have cu:=cr.zs Ar 60 a4
 refine AL O (kp [9,8,2,0,1] O) (AC (AH (AA O ?_)))
 have cv:=ac.mono' a3
 refine Ak O cv Im O λf7=>AA O (AM (kp [34,33,32,9,8,2,1] O) (Aj (λa w=>∃(bf:Value) (bg:List Av) (bh:List (List Int)),IV B bc be (79,[]) a w [(8,z),(9,bf)] (OS Ar 60 bf bg::OS (AN.sl AN.int) 29 z bh::L) λ_ _=>Gr N bg bh=some r) ?_ ?_))
 ·refine A3 (λn3=>λa w=>∃(M:Value) (Y:List Av) (K:Int) (Z:List (List Int)),IV B bc be (79,[]) a w [(33,vI (↑A.length:Int)),(32,j),(8,z),(2,vI y1),(1,vI c),(9,M),(34,vI K)] (OS Ar 60 M Y::OS (AN.sl AN.int) 29 z Z::L) λ_ _=>AE K∧El N A c y1 (Gr N) n3 Y K Z=some r) N ?_ ?_ ?_
  ·intro F G y C
   exact⟨(.slice a4 0 0),([]:List Av),0,ar,_,_,y.sub (kp [33,32,8,2,1,9,34] O),C,cu,(B9.refl bc be),(iq (n:=0) O),E⟩
  ·rintro F G ⟨_,_,_,_,_,_,_,_,_,_,_,E⟩
   rw[El] at E;cases E
  rintro n3 F G ⟨M,Y,K,Z,D,ei,y,C,ag,bi,f8,E⟩
  refine Ac ?_ y C
  clear y C G F
  rw[El] at E
  refine AH (Ao O (AM (kp [35,33,32,8,2,1,9,34] O) (AC (AX O E (λej E=>?_) (λej E=>?_)))))
  ·refine AO (AC (Aj (λa w=>∃(au:Value) (av:List Av) (aw:List (List Int)),IV B D ei (79,[]) a w [(33,vI (↑A.length:Int)),(32,j),(8,z),(2,vI y1),(1,vI c),(34,vI K),(9,au)] (OS Ar 60 au av::OS (AN.sl AN.int) 29 z aw::L) λ_ _=>IW N K (El N A c y1 (Gr N) n3) av aw=some r) ?_ ?_))
   ·refine WF.sl (AI 2 ?_)
    obtain⟨g,cw,E⟩:=bd E
    refine A9 O O (cv.mono' bi) Im cw O λf9 ek=>B6 A6 ag.1 O ek Kx (λe=>by cases e) O λga el=>AG (Cn QY O ag λQ gb cx bj=>?_)
    obtain⟨cy,rfl,em,bk,bl⟩:=Ar.ex (el.mono bj)
    refine HM (vs:=[vI g.At,vI g.To,cy]) (cs':=[vI g.At,vI g.To,cy]) O O O (AF O (AF O (AF bl.one EG))) Kx O cx .head O O λab d ax=>AZ (kp [12,33,32,8,2,1,9,34] O) (AH (AD Mv O (AT A6 d O mh O Ae O (AA O (Fv O (AA O (AV 4 46 (.bool ((decide (g.At≤c))&&(decide (0≤g.To)))) ?_ ?_)))))))
    ·cases gc:(decide (g.At≤c))
     ·exact Aa O O
     exact AB O (AD KV O (AB O (AT A6 d O mh O Ae O (AB O (Gb O (AJ O (AU O)))))))
    refine AA O (AV 5 52 (.bool (((decide (g.At≤c))&&(decide (0≤g.To)))&&(decide (g.To<y1)))) ?_ ?_)
    ·cases gd:((decide (g.At≤c))&&(decide (0≤g.To)))
     ·exact Aa O O
     exact AB O (AD KV O (AB O (AT A6 d O mh O Ae O (AB O (AA O (AB O (Ao O (AJ O (AU O)))))))))
    refine AM (kp [52,12,33,32,8,2,1,9,34] O) (AX O E (λcz E=>?_) (λcz E=>?_))
    ·obtain ⟨eq,bm,E⟩:=bd E
     obtain⟨a5,bn,E⟩:=bd E
     obtain⟨ah,bo,E⟩:=bd E
     obtain⟨er,bp,E⟩:=bd E
     refine NH (m:=[(12,vP Q 0),(33,vI (↑A.length:Int)),(32,j),(8,z),(2,vI y1),(1,vI c),(9,M),(34,vI K)]) 12 (λi v H=>match i with|0=>v=z|1=>v=vP Q 1|2=>v=vI g.To∧AE g.To|3=>v=z|4=>v=vP Q 1|5=>v=vI g.To∧AE g.To|6=>EP z (g.To.toNat*((AN.sl AN.int)).sz+0) v|7=>Sl D H AN.int v a5|8=>v=vP Q 2|9=>Sl D H AN.int v g.Part|10=>Sl (SN D ab H) H AN.int v ah|11=>EP z (g.To.toNat*((AN.sl AN.int)).sz+0) v|_=>False) [[],[],[(1,54)],[],[],[(4,57)],[(3,56),(5,58)],[(6,59)],[],[(8,61)],[(7,60),(9,62)],[(0,53),(2,55)]] [(10,63),(11,64)] mo (by kernel_rfl) [12,33,32,8,2,1,9,34] O (by kernel_rfl) (by kernel_rfl) (by kernel_rfl) (kp [12,33,32,8,2,1,9,34] O) (λi v h1 h2 o1 o2 hr=>?_) ?_ ?_
     ·match i,hr with
       |0,hr|1,hr|2,hr|3,hr|4,hr|5,hr|6,hr|8,hr|11,hr=>exact hr
       |7,hr|9,hr=>exact Sl.mono' hr (o2.ext λb hb=>Nat.lt_of_lt_of_le (d.1 b hb) o1.siz)
       |10,hr=>exact Sl.mono' hr (SN.mono d.1 o1 o2)
       |_+12,hr=>exact hr.elim
     ·refine A7.cons O (λ_ _ _=>AI 1 (AA O (AQ O))) (A7.cons O (λ_ _ _=>AI 1 (AD KV O (AQ O))) (A7.cons O (λ_ _ o _ c0=>by cases c0;exact AI 1 (AT A6 (o.st d) O mh O Ae O (AQ ⟨O,bk⟩))) (A7.cons O (λ_ _ _=>AI 1 (AA O (AQ O))) (A7.cons O (λ_ _ _=>AI 1 (AD KV O (AQ O))) (A7.cons O (λ_ _ o _ c1=>by cases c1;exact AI 1 (AT A6 (o.st d) O mh O Ae O (AQ ⟨O,bk⟩))) (A7.cons O (λ_ _ o=>by intro es c2 et c3;cases c2;obtain ⟨rfl,eu⟩:=c3;exact AI 1 (A0 (o.st d) (mt (mt mh)) O O E3 bm O λev bq=>AQ bq)) ?_))))))
      refine A7.cons O ?_ ?_
      ·intro mq H o
       intro ew c4
       have hsN:=o.st d
       refine AI 1 ?_
       have c5:=hsN.epAt (mt (mt mh)) bn FL.id c4
       exact Al A6 (λ_ x=>x) O c5 BX O λey c6=>AQ c6
      refine A7.cons O (λ_ _ _=>AI 1 (AD KU O (AQ O))) (A7.cons O (λ_ _ o _ c7=>by cases c7;exact AI 1 (AT A6 (o.st d) O mh O BX O (AQ (bl.mono' (ax.trans (o.ext d.1)))))) ?_)
      refine A7.cons O ?_ ?_
      ·intro mq H o
       intro c8 U c9 V
       have hsN:=SN.st d o
       have U:=Sl.mono' (S':=(SN D ab H)) U ⟨λb hb=> .inl hb,λ_ _=>rfl,Nat.le_refl _⟩
       have U:Sl _ _ AN.int c8 a5:=U
       have V:=Sl.mono' (S':=(SN D ab H)) V ⟨λb hb=> .inl hb,λ_ _=>rfl,Nat.le_refl _⟩
       have V:Sl _ _ AN.int c9 g.Part:=V
       have hsF:=hsN.fz
       refine Bf O O O XQ O hsF (Lf (St.all _) (U.mono (λb hb=>hsF.1 b hb) (λ_ _=>rfl)) (V.mono (λb hb=>hsF.1 b hb) (λ_ _=>rfl)) bo) λez e0 e1 en da db p=>?_
       have br:=p
       have ai:=hsF.join db br ⟨OS.flat (λ{_ _ _ _ _ _} k=>k),trivial⟩
       simp only[List.cons_append,List.nil_append] at ai
       obtain⟨e2,bs,dc,dd⟩:=ai.pubs .head
       have aj:=Fz.done o (da.trans dc) bs
       exact C1 aj.1 (Sl.mono' dd aj.2)
      exact A7.cons O (λ_ _ o=>by intro e3 de e4 df;cases de;obtain ⟨rfl,e5⟩:=df;exact AI 1 (A0 (o.st d) (mt (mt mh)) O O E3 bp O λe7 bt=>AQ bt)) trivial
     intro e8 a6 dg ak e9 dh
     have bu:=SN.st d a6
     have ak:Sl _ _ AN.int dg ah:=ak
     obtain⟨di,bv,E⟩:=bd E
     refine Er (r:=(AN.sl AN.int)) (l:=Z) (i:=g.To) (x:=di) O O (M0 ak) dh bv Lr.id BX (λ_=>rfl) bu (.tail (.tail .head)) λfa bw dj=>AZ (kp [33,32,8,2,1,9,34] O) (WF.nil (λF G y C=>?_))
     have bx:=bw.sel [1,1] 1 O
     exact⟨M,Y,(upd Z g.To ah),_,_,y.sub (kp [33,32,8,2,1,34,9] O),C,bx,(bj.trans (ax.trans ((SN.ext d.1 a6).trans dj))),E⟩
    obtain⟨s,bz,E⟩:=bd E
    refine NH (m:=[(12,vP Q 0),(33,vI (↑A.length:Int)),(32,j),(8,z),(2,vI y1),(1,vI c),(9,M),(34,vI K)]) 10 (λi v H=>match i with|0=>v=M|1=>v=vP Q 0|2=>v=vI g.At∧AE g.At|3=>v=vP Q 1|4=>v=vI g.To∧AE g.To|5=>v=vP Q 2|6=>Sl D H AN.int v g.Part|7=>Sl (SN D ab H) H AN.int v s|8=>Rd (SN D ab H) H Ar v ({ g with Part:=s}:Av)|9=>Sl (SN D ab H) H Ar v ([({ g with Part:=s}:Av)]:List Av)∧∃ad,v= .slice (some ad) 1 1|_=>False) [[],[],[(1,66)],[],[(3,68)],[],[(5,70)],[(6,71)],[(2,67),(4,69),(7,72)],[(8,73)]] [(0,65),(9,74)] mo (by kernel_rfl) [12,33,32,8,2,1,9,34] O (by kernel_rfl) (by kernel_rfl) (by kernel_rfl) (kp [12,33,32,8,2,1,9,34] O) (λi v h1 h2 o1 o2 hr=>?_) ?_ ?_
    ·match i,hr with
      |0,hr|1,hr|2,hr|3,hr|4,hr|5,hr=>exact hr
      |6,hr=>exact Sl.mono' hr (o2.ext λb hb=>Nat.lt_of_lt_of_le (d.1 b hb) o1.siz)
      |7,hr=>exact Sl.mono' hr (SN.mono d.1 o1 o2)
      |8,hr=>exact Rd.mono hr (SN.mono d.1 o1 o2)
      |9,hr=>exact⟨Sl.mono' hr.1 (SN.mono d.1 o1 o2),hr.2⟩
      |_+10,hr=>exact hr.elim
    ·refine A7.cons O (λ_ _ _=>AI 1 (AA O (AQ O))) (A7.cons O (λ_ _ _=>AI 1 (AD Mv O (AQ O))) (A7.cons O (λ_ _ o _ dk=>by cases dk;exact AI 1 (AT A6 (o.st d) O mh O Ae O (AQ ⟨O,em⟩))) (A7.cons O (λ_ _ _=>AI 1 (AD KV O (AQ O))) (A7.cons O (λ_ _ o _ dl=>by cases dl;exact AI 1 (AT A6 (o.st d) O mh O Ae O (AQ ⟨O,bk⟩))) (A7.cons O (λ_ _ _=>AI 1 (AD KU O (AQ O))) (A7.cons O (λ_ _ o _ dm=>by cases dm;exact AI 1 (AT A6 (o.st d) O mh O BX O (AQ (bl.mono' (ax.trans (o.ext d.1)))))) ?_))))))
     refine A7.cons O ?_ ?_
     ·intro mq H o
      intro dn W
      have hsN:=SN.st d o
      have W:=Sl.mono' (S':=(SN D ab H)) W ⟨λb hb=> .inl hb,λ_ _=>rfl,Nat.le_refl _⟩
      have W:Sl _ _ AN.int dn g.Part:=W
      have hsF:=hsN.fz
      refine Bf O O O P5 O hsF (DE (St.all _) (W.mono (λb hb=>hsF.1 b hb) (λ_ _=>rfl)) bz) λfb fc fd eo dp dq p=>?_
      have b0:=p
      have am:=hsF.join dq b0 ⟨OS.flat (λ{_ _ _ _ _ _} k=>k),trivial⟩
      simp only[List.cons_append,List.nil_append] at am
      obtain⟨fe,b1,dr,ds⟩:=am.pubs .head
      have an:=Fz.done o (dp.trans dr) b1
      exact C1 an.1 (Sl.mono' ds an.2)
     refine A7.cons O ?_ ?_
     ·intro mq H o
      intro ff dt fg du dv ae
      have hsN:=SN.st d o
      obtain⟨rfl,dw⟩:=dt
      obtain⟨rfl,dx⟩:=du
      have ae:Sl _ _ AN.int dv s:=ae
      refine AI 1 ?_
      obtain⟨b2,ay,rfl,fh⟩:=(ae).len
      exact H1 (cs:=[vI g.At,vI g.To,(.slice b2 s.length ay)]) ZC O O O (AQ (Ar.mk (x:=({ g with Part:=s}:Av)) dw dx ae))
     refine A7.cons O ?_ ?_
     ·intro mq H o
      intro dy ao
      have hsN:=SN.st d o
      have ao:Rd _ _ Ar dy ({ g with Part:=s}:Av):=ao
      have hsF:=hsN.fz
      obtain⟨fi,rfl,dz,d0,a7⟩:=Ar.ex ao
      obtain⟨b3,az,rfl,fj⟩:=(a7).len
      refine D0 (cs:=[vI (({ g with Part:=s}:Av).At),vI (({ g with Part:=s}:Av).To),(.slice b3 (({ g with Part:=s}:Av).Part).length az)]) Qp O O O O O O O hsF λfk fl b4 a8=>?_
      have d1:=a7.mono' a8
      have b5:=b4.bxos (r:=Ar) (l:=([({ g with Part:=s}:Av)]:List Av)) .head ⟨_,_,O,⟨_,O,dz,d0,d1⟩,O⟩ (by simp [maxLen])
      obtain⟨fm,b6,d2,d3⟩:=b5.pubs .head
      have ap:=Fz.done o (a8.trans d2) b6
      exact C1 ap.1 ⟨Sl.mono' d3 ap.2,_,O⟩
     exact trivial
    intro fn a9 fo d4 fp aq
    have b7:=SN.st d a9
    cases d4
    obtain⟨aq,ep,rfl⟩:=aq
    obtain⟨b8,E⟩:=MU E
    refine JT (r:=Ar) (l:=Y) (xs:=([({ g with Part:=s}:Av)]:List Av)) O O Qp O (Sl.src aq) O b8 O b7 (λ_=>(.tail .head)) λd5 fq b9 d6=>AI 1 (AY O (AG (AZ (kp [9,33,32,8,2,1,34] O) (WF.nil (λF G y C=>?_)))))
    have ca:=b9.sel [1,1] 1 O
    exact⟨d5,(Y++([({ g with Part:=s}:Av)]:List Av)),Z,_,_,y.sub (kp [33,32,8,2,1,34,9] O),C,ca,(bj.trans (ax.trans ((SN.ext d.1 a9).trans d6))),E⟩
   rintro F G ⟨au,av,aw,fr,fs,y,C,cb,d7,E⟩
   refine Ac ?_ y C
   clear y C G F
   rw[IW] at E
   refine BY (.inl O) (Ai O (AA O (AM (kp [34,33,32,8,2,1,9] O) (WF.nil (λF G y C=>?_)))))
   exact⟨au,av,(BM (K+1)),aw,_,_,y.sub (kp [33,32,8,2,1,9,34] O),C,cb,(bi.trans d7),(BG _),E⟩
  refine BA O (λF G y C=>?_)
  exact⟨M,Y,Z,_,_,y.sub (kp [8,9] O),C,ag,bi,E⟩
 rintro F G ⟨bf,bg,bh,ft,fu,y,C,cc,d8,E⟩
 refine Ac ?_ y C
 clear y C G F
 rw[Gr] at E
 refine AH (AA O (AA O (AY O (AL O (kp [9,8] O) (Ad (λF G y C=>?_))))))
 have cd:=cc.sel [1,0] 0 O
 cases E
 exact KD y O C (IF (Ir y (v:=_) O) (IF (Ir y (v:=_) O) KC)) O (e6.trans (ch.trans (cj.trans (ct.trans d8)))) ⟨_,_,O,cd⟩
end Go.Proofs.YtblcgjadhemlbaaGreat
