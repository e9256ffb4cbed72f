import Derived.Test.YtblcgjadhemlbaaGreatUWalk7
namespace Go.Proofs.YtblcgjadhemlbaaGreat
open Go.RowKit
set_option linter.unusedVariables false
set_option linter.unusedSimpArgs false
set_option maxRecDepth 10000
set_option maxHeartbeats 2000000
variable {N:Nat}{S:Nat→Prop}{L:List HP}{h:Av}
theorem NH {u:Nat}{p0_w:Aj}{M:Value}{Q:Value}{U:Value}{V:Value}{W:Value}{X:Value}{Y:Value}{Z:Value}{F:Value}{G:Value}{H:Value}{I:Value}{J:Value}{t:Value}{c:Value}{A:Value}{d:Value}{z:Value}{g:Value}{K:Value}{k:Value}{p:Value}(hs:St S (Bx u 84 [.string p0_w.b.Name,M,vI p0_w.b.Cells,Q,U,V,W,X,Y,Z,vI p0_w.b.Err,F,G,H,I,J,vI p0_w.s.Hour,t,c,A,d,z,g,K,k,p]::OO AM.int 3 29 t p0_w.s.Own::OS AM.int 3 c p0_w.s.Rem::OS A8 69 d p0_w.s.Gates::OS AM.int 3 z p0_w.s.In::OS AM.int 3 g p0_w.s.Out::OS BT 50 K p0_w.moves::OS AM.int 3 k p0_w.peaks::OS Ap 60 p p0_w.sent::L) h) (db:p0_w.b.Name.size≤maxLen) (a7:Sl S h AM.str M p0_w.b.Owners) (dc:AG p0_w.b.Cells) (a8:Sl S h Bw Q p0_w.b.Places) (dd:Sl S h Bu U p0_w.b.Links) (de:Sl S h GL V p0_w.b.Towns) (df:Sl S h EN W p0_w.b.Gauges) (dg:Sl S h F8 X p0_w.b.Roads) (dh:Sl S h Cr Y p0_w.b.Shelters) (di:Sl S h AM.int Z p0_w.b.Room) (ca:AG p0_w.b.Err) (ai:Sl S h AM.int F p0_w.in_.Rain) (cb:Sl S h FL G p0_w.in_.Faults) (cc:Sl S h IX H p0_w.in_.Cmds) (cd:Sl S h FX I p0_w.in_.Takes) (ce:Sl S h GM J p0_w.in_.Swaps) (av:AG p0_w.s.Hour) (aw:Sl S h Ap A p0_w.s.Queue) {r:(List (List Int))×(List Int)×(List Ae)}(E:Hb N p0_w=some r):
 CG Tryz.prog 32 #[vP u 0] S h (λv S' h'=>∃w_0_17 w_0_21 w_0_23:Value,v= .tuple #[]∧St S' (Bx u 84 [.string p0_w.b.Name,M,vI p0_w.b.Cells,Q,U,V,W,X,Y,Z,vI p0_w.b.Err,F,G,H,I,J,vI p0_w.s.Hour,w_0_17,c,A,d,w_0_21,g,w_0_23,k,p]::OO AM.int 3 29 w_0_17 r.1::OS AM.int 3 c p0_w.s.Rem::OS A8 69 d p0_w.s.Gates::OS AM.int 3 w_0_21 r.2.1::OS AM.int 3 g p0_w.s.Out::OS BT 50 w_0_23 r.2.2::OS AM.int 3 k p0_w.peaks::OS Ap 60 p p0_w.sent::L) h'):=by
 refine BB (l:=[vP u 0]) 137 Tryz.func32 O Tryz.ntmps32 O λB=>?_
 rw[Hb] at E
 refine AI (AL O (kp [2,0] O) (AD (AI (AA O (CI O O (AC CU O (AC D4 O (AS A6 hs O mh O HN O (Xk hs (mt mh) O FO O λb1=>AA O (AN (kp [17,16,15,2,0] O) (Am (λa w=>∃(i2:Int),IV B S h (137,[]) a w [(0,vP u 0),(2,vI i2)] (Bx u 84 [.string p0_w.b.Name,M,vI p0_w.b.Cells,Q,U,V,W,X,Y,Z,vI p0_w.b.Err,F,G,H,I,J,vI p0_w.s.Hour,t,c,A,d,z,g,K,k,p]::OO AM.int 3 29 t p0_w.s.Own::OS AM.int 3 c p0_w.s.Rem::OS A8 69 d p0_w.s.Gates::OS AM.int 3 z p0_w.s.In::OS AM.int 3 g p0_w.s.Out::OS BT 50 K p0_w.moves::OS AM.int 3 k p0_w.peaks::OS Ap 60 p p0_w.sent::L) λ_ _=>AG i2∧DM N p0_w i2=some r) ?_ ?_)))))))))))
 ·refine A3 (λn1=>λa w=>∃(i8:Int) (bb:Int),IV B S h (137,[]) a w [(16,vI (↑p0_w.s.Own.length:Int)),(15,t),(0,vP u 0),(2,vI i8),(17,vI bb)] (Bx u 84 [.string p0_w.b.Name,M,vI p0_w.b.Cells,Q,U,V,W,X,Y,Z,vI p0_w.b.Err,F,G,H,I,J,vI p0_w.s.Hour,t,c,A,d,z,g,K,k,p]::OO AM.int 3 29 t p0_w.s.Own::OS AM.int 3 c p0_w.s.Rem::OS A8 69 d p0_w.s.Gates::OS AM.int 3 z p0_w.s.In::OS AM.int 3 g p0_w.s.Out::OS BT 50 K p0_w.moves::OS AM.int 3 k p0_w.peaks::OS Ap 60 p p0_w.sent::L) λ_ _=>AG i8∧AG bb∧DK N p0_w (DM N p0_w) n1 i8 bb=some r) N ?_ ?_ ?_
  ·intro aa ww hf hw
   exact⟨0,0,_,_,hf.sub (kp [16,15,0,2,17] O),hw,hs,(B9.refl S h),(iq (n:=0) O),(iq (n:=0) O),E⟩
  ·rintro aa ww ⟨_,_,_,_,_,_,_,_,_,_,E⟩
   rw[DK] at E;cases E
  rintro n1 aa ww ⟨i8,bb,g6,g7,hf,hw,ay,dj,r9,g8,E⟩
  refine Ad ?_ hf hw
  clear hf hw ww aa
  rw[DK] at E
  refine AI (Aq O (AN (kp [18,16,15,0,2,17] O) (AD (AX O E (λfg E=>?_) (λfg E=>?_)))))
  ·refine AT (AD (A5 (AI ?_)))
   obtain⟨g9,dk,E⟩:=bd E
   refine N2 (r:=AM.int) ay (mt mh) O O FO dk O λha dl=>?_
   obtain⟨hc,dm,E⟩:=bd E
   refine R4 (r:=AM.int) A6 ay (mt mh) O dm dl BP O λhd fx fh=>AL O (kp [4,16,15,0,2,17] O) (Bl (.inl O) ay (AA O (AA O ?_)))
   obtain⟨fi,dn,E⟩:=bd E
   refine CE O O O NC O (λh' o=>Ef (St.all h') (fh.mono (λb hb=>Nat.lt_of_lt_of_le hb o.siz) (λb hb=>o.same b hb)) dn) λfj=>?_
   have he:=fj
   refine Af O (AY O (BJ (kp [2,16,15,0,17] O) λhg dp fk=>BK (BY (.inl O) (Af O (AA O (AN (kp [17,2,16,15,0] O) (WF.nil (λaa ww hf hw=>?_))))))))
   exact⟨(BC (i8+fi)),(BC (bb+1)),_,_,hf.sub (kp [16,15,0,2,17] O),hw,dp,(dj.trans fk),(BI _),(BI _),E⟩
  refine A9 O (λaa ww hf hw=>?_)
  exact⟨i8,_,_,hf.sub (kp [0,2] O),hw,ay,dj,r9,E⟩
 rintro aa ww ⟨i2,cf,cg,hf,hw,bz,a9,r3,E⟩
 refine Ad ?_ hf hw
 clear hf hw ww aa
 rw[DM] at E
 refine AD (AI (AA O (CI O O (AC CU O (AC Jl O (AS A6 bz O mh O LG O ?_))))))
 have dq:=aw.mono' a9
 refine Al O dq JX O λhi=>AA O (AN (kp [32,31,30,0,2] O) (Am (λa w=>∃(bc:Int),IV B cf cg (137,[]) a w [(0,vP u 0),(2,vI bc)] (Bx u 84 [.string p0_w.b.Name,M,vI p0_w.b.Cells,Q,U,V,W,X,Y,Z,vI p0_w.b.Err,F,G,H,I,J,vI p0_w.s.Hour,t,c,A,d,z,g,K,k,p]::OO AM.int 3 29 t p0_w.s.Own::OS AM.int 3 c p0_w.s.Rem::OS A8 69 d p0_w.s.Gates::OS AM.int 3 z p0_w.s.In::OS AM.int 3 g p0_w.s.Out::OS BT 50 K p0_w.moves::OS AM.int 3 k p0_w.peaks::OS Ap 60 p p0_w.sent::L) λ_ _=>AG bc∧DL N p0_w bc=some r) ?_ ?_))
 ·refine A3 (λn3=>λa w=>∃(ba:Int) (be:Int),IV B cf cg (137,[]) a w [(31,vI (↑p0_w.s.Queue.length:Int)),(30,A),(0,vP u 0),(2,vI ba),(32,vI be)] (Bx u 84 [.string p0_w.b.Name,M,vI p0_w.b.Cells,Q,U,V,W,X,Y,Z,vI p0_w.b.Err,F,G,H,I,J,vI p0_w.s.Hour,t,c,A,d,z,g,K,k,p]::OO AM.int 3 29 t p0_w.s.Own::OS AM.int 3 c p0_w.s.Rem::OS A8 69 d p0_w.s.Gates::OS AM.int 3 z p0_w.s.In::OS AM.int 3 g p0_w.s.Out::OS BT 50 K p0_w.moves::OS AM.int 3 k p0_w.peaks::OS Ap 60 p p0_w.sent::L) λ_ _=>AG ba∧AG be∧DJ N p0_w (DL N p0_w) n3 ba be=some r) N ?_ ?_ ?_
  ·intro aa ww hf hw
   exact⟨i2,0,_,_,hf.sub (kp [31,30,0,2,32] O),hw,bz,(B9.refl cf cg),r3,(iq (n:=0) O),E⟩
  ·rintro aa ww ⟨_,_,_,_,_,_,_,_,_,_,E⟩
   rw[DJ] at E;cases E
  rintro n3 aa ww ⟨ba,be,hj,hk,hf,hw,bf,ch,fl,hl,E⟩
  refine Ad ?_ hf hw
  clear hf hw ww aa
  rw[DJ] at E
  refine AI (Aq O (AN (kp [33,31,30,0,2,32] O) (AD (AX O E (λfm E=>?_) (λfm E=>?_)))))
  ·refine AT (AD (A5 (WF.sl (AH 2 ?_))))
   obtain⟨bu,dr,E⟩:=bd E
   refine BD O O (dq.mono' ch) JX dr O λhm fn=>B4 A6 bf.1 O fn Ku (λe=>by cases e) O λhn fo=>AF (Cs QT O bf λho hp ds dt=>?_)
   obtain⟨du,rfl,hq,ht,dv⟩:=Ap.ex (fo.mono dt)
   refine HJ (vs:=[vI bu.At,vI bu.To,du]) (cs':=[vI bu.At,vI bu.To,du]) O O O (AE O (AE O (AE dv.one EA))) Ku O ds .head O O λhu bg dw=>AZ (kp [6,31,30,0,2,32] O) (Bl (.inl O) bg (AA O (AC Kz O (AS Bb bg O mh O BP O ?_))))
   obtain⟨fp,dx,E⟩:=bd E
   refine CE O O O NC O (λh' o=>Ef (St.all h') ((dv.mono' dw).mono' (o.all bg.1)) dx) λfq=>?_
   have hv:=fq
   refine Af O (AY O (BJ (kp [2,31,30,0,32] O) λhx dy fr=>BK (BY (.inl O) (Af O (AA O (AN (kp [32,2,31,30,0] O) (WF.nil (λaa ww hf hw=>?_))))))))
   have dz:=dy.sel [1,1,1,1,1,1,1,1,1] 1 O
   exact⟨(BC (ba+fp)),(BC (be+1)),_,_,hf.sub (kp [31,30,0,2,32] O),hw,dz,(ch.trans (dt.trans (dw.trans fr))),(BI _),(BI _),E⟩
  refine A9 O (λaa ww hf hw=>?_)
  exact⟨ba,_,_,hf.sub (kp [0,2] O),hw,bf,ch,fl,E⟩
 rintro aa ww ⟨bc,d0,hy,hf,hw,bh,bi,fs,E⟩
 refine Ad ?_ hf hw
 clear hf hw ww aa
 rw[DL] at E
 refine AD (Bl (.inl O) bh (AA O (CI O O (AC CU O (AC Ic O (AS Bb bh O mh O BP O ?_))))))
 obtain⟨ft,d1,E⟩:=bd E
 refine CE O O O NC O (λh' o=>Ef (St.all h') ((bh.oslAll (mt (mt (mt (mt mh))))).mono (λb hb=>Nat.lt_of_lt_of_le hb o.siz) (λb hb=>o.same b hb)) d1) λfu=>?_
 have fv:=fu
 refine AY O (BJ (kp [7,0,2] O) λd2 b0 bj=>AI (AA O (CI O O (AC GC O (AC DI O (AS A6 b0 O mh O GO O (Al O (a8.mono' (a9.trans (bi.trans bj))) qZ O λhz=>AA O (AN (kp [54,53,7,0,2] O) (A5 (A3 (λn4=>λa w=>∃(ae:Int) (af:Int) (C:Int) (aj:Value) (ac:List Ae) (ak:List (List Int)) (ah:List Int),IV B d0 d2 (137,[]) a w [(53,vI (↑p0_w.b.Places.length:Int)),(0,vP u 0),(2,vI ae),(7,vI af),(54,vI C)] (OS BT 50 aj ac::Bx u 84 [.string p0_w.b.Name,M,vI p0_w.b.Cells,Q,U,V,W,X,Y,Z,vI p0_w.b.Err,F,G,H,I,J,vI p0_w.s.Hour,t,c,A,d,z,g,aj,k,p]::OO AM.int 3 29 t ak::OS AM.int 3 c p0_w.s.Rem::OS A8 69 d p0_w.s.Gates::OS AM.int 3 z ah::OS AM.int 3 g p0_w.s.Out::OS AM.int 3 k p0_w.peaks::OS Ap 60 p p0_w.sent::L) λ_ _=>AG ae∧AG af∧AG C∧CD N p0_w n4 ae af C ac ak ah=some r) N ?_ ?_ ?_))))))))))
 ·intro aa ww hf hw
  have ci:=b0.sel [6,0,0,0,0,0,0,0,0] 0 O
  exact⟨bc,ft,0,K,p0_w.moves,p0_w.s.Own,p0_w.s.In,_,_,hf.sub (kp [53,0,2,7,54] O),hw,ci,(B9.refl d0 d2),fs,fv,(iq (n:=0) O),E⟩
 ·rintro aa ww ⟨_,_,_,_,_,_,_,_,_,_,_,_,_,_,_,_,E⟩
  rw[CD] at E;cases E
 rintro n4 aa ww ⟨ae,af,C,aj,ac,ak,ah,az,a0,hf,hw,ag,ap,d3,d4,d5,E⟩
 refine Ad ?_ hf hw
 clear hf hw ww aa
 rw[CD] at E
 refine AI (Aq O (AN (kp [55,53,0,2,7,54] O) (AD (AX O E (λd6 E=>?_) (λd6 E=>?_)))))
 ·refine AT (AD (Am (λa w=>∃(aq:Int) (ar:Int) (a1:Value) (a2:List Ae) (a3:List (List Int)) (a4:List Int),IV B az a0 (137,[]) a w [(53,vI (↑p0_w.b.Places.length:Int)),(0,vP u 0),(54,vI C),(2,vI aq),(7,vI ar)] (OS BT 50 a1 a2::Bx u 84 [.string p0_w.b.Name,M,vI p0_w.b.Cells,Q,U,V,W,X,Y,Z,vI p0_w.b.Err,F,G,H,I,J,vI p0_w.s.Hour,t,c,A,d,z,g,a1,k,p]::OO AM.int 3 29 t a3::OS AM.int 3 c p0_w.s.Rem::OS A8 69 d p0_w.s.Gates::OS AM.int 3 z a4::OS AM.int 3 g p0_w.s.Out::OS AM.int 3 k p0_w.peaks::OS Ap 60 p p0_w.sent::L) λ_ _=>AG aq∧AG ar∧ES N C (CD N p0_w n4) aq ar a2 a3 a4=some r) ?_ ?_))
  ·refine AI (AA O (AL O (kp [8,53,0,2,7,54] O) (AI (AL O (kp [9,8,53,0,2,7,54] O) (AD (AI (AA O (AA O (CI O O (AC Mp O (AC Nu O (AS A6 ag O (mt mh) O BP O (Al O (ai.mono' (a9.trans (bi.trans (bj.trans ap)))) BG O λfy=>Aq O (AN (kp [64,9,8,53,0,2,7,54] O) (Gs (λa w=>∃(D:Int),IV B az a0 (137,[]) a w [(8,vI C),(53,vI (↑p0_w.b.Places.length:Int)),(0,vP u 0),(2,vI ae),(7,vI af),(54,vI C),(9,vI D)] (OS BT 50 aj ac::Bx u 84 [.string p0_w.b.Name,M,vI p0_w.b.Cells,Q,U,V,W,X,Y,Z,vI p0_w.b.Err,F,G,H,I,J,vI p0_w.s.Hour,t,c,A,d,z,g,aj,k,p]::OO AM.int 3 29 t ak::OS AM.int 3 c p0_w.s.Rem::OS A8 69 d p0_w.s.Gates::OS AM.int 3 z ah::OS AM.int 3 g p0_w.s.Out::OS AM.int 3 k p0_w.peaks::OS Ap 60 p p0_w.sent::L) λ_ _=>AG D∧FY N p0_w ae af C ac ak ah (ES N C (CD N p0_w n4)) D=some r) ?_ ?_)))))))))))))))
   ·refine AX O E (λd7 E=>?_) (λd7 E=>?_)
    ·refine BY (.inl O) (AA O (CI O O (AC Mp O (AC Nu O (AS A6 ag O (mt mh) O BP O (AA O ?_))))))
     obtain⟨d8,cj,E⟩:=bd E
     refine BD O O (ai.mono' (a9.trans (bi.trans (bj.trans ap)))) BG cj O λf0 d9=>Ah A6 ag.1 O d9 Ag O λea=>AA O (Cg O (AA O (Cg O (Yt O O O O (AL O (kp [9,8,53,0,2,7,54] O) (WF.nil (λaa ww hf hw=>?_)))))))
     exact⟨(min (min d8 (BC (1125899906842624-ae))) (BC (1152921504606846976-af))),_,_,hf.sub (kp [8,53,0,2,7,54,9] O),hw,ag,(B9.refl az a0),(LQ (LQ ea (BI _)) (BI _)),E⟩
    refine AT (WF.nil (λaa ww hf hw=>?_))
    exact⟨0,_,_,hf.sub (kp [8,53,0,2,7,54,9] O),hw,ag,(B9.refl az a0),(iq (n:=0) O),E⟩
   rintro aa ww ⟨D,f1,f2,hf,hw,am,bk,eb,E⟩
   refine Ad ?_ hf hw
   clear hf hw ww aa
   rw[FY] at E
   refine AD (AI (AA O (Ft O (AN (kp [79,8,53,0,2,7,54,9] O) (AX O E (λec E=>?_) (λec E=>?_))))))
   ·refine A9 O (λaa ww hf hw=>?_)
    exact⟨ae,af,aj,ac,ak,ah,_,_,hf.sub (kp [53,0,54,2,7] O),hw,am,bk,d3,d4,E⟩
   refine AT (WF.sl (AH 13 (AA O (CI O O (AC CU O (AC D4 O (AS A6 am O (mt mh) O HN O (AA O ?_))))))))
   obtain⟨f3,ck,E⟩:=bd E
   refine N2 (r:=AM.int) am (mt (mt mh)) O O FO ck O λf4 bl=>?_
   obtain⟨ed,bm,E⟩:=bd E
   refine R4 (r:=AM.int) A6 am (mt (mt mh)) O bm bl BP O λf5 cl b2=>?_
   obtain⟨bn,cm,E⟩:=bd E
   refine Uv O O b2 BG cm O λf6 ee ff=>Ah A6 (λ_ x=>x) O ee Ag O λf7=>AA O (Af O ?_)
   obtain⟨f8,bo,E⟩:=bd E
   refine Uv O O b2 BG bo O λf9 ga bv=>AF ?_
   have cn:=am.pick (.tail (.tail .head))
   refine Y0 (r:=AM.int) (i:=C) (j:=0) (y:=(BC (bn+D))) O O (⟨_,O,O,(BI _)⟩:Rd _ _ AM.int _ (BC (bn+D))) bl cl bv bm bo Ag (λ_=>rfl) cn λgb an b3=>AZ (kp [8,53,0,2,7,54,9] O) (WF.sl (AH 10 (AA O (CI O O (AC CU O (AC Ic O (AS A6 an O (mt (mt mh)) O BP O ?_)))))))
   obtain⟨gc,co,E⟩:=bd E
   refine A4 an (mt (mt (mt (mt (mt mh))))) O O BG co O λgd cp=>?_
   obtain⟨b4,cq,E⟩:=bd E
   have ef:=an.epAt (mt (mt (mt (mt (mt mh))))) cq FM.id cp
   refine Ah A6 (λ_ x=>x) O ef Ag O λge=>AA O (Af O ?_)
   obtain⟨gf,cr,E⟩:=bd E
   refine A4 an (mt (mt (mt (mt (mt mh))))) O O BG cr O λgg ct=>AF ?_
   obtain⟨eg,cu,E⟩:=bd E
   refine En (r:=AM.int) (l:=ah) (i:=0) (x:=eg) O O (⟨_,O,O,(BI _)⟩:Rd _ _ AM.int _ (BC (b4+D))) ct cu Lq.id Ag (λ_=>rfl) an (.tail (.tail (.tail (.tail (.tail .head))))) λgh bp b5=>AZ (kp [8,53,0,2,7,54,9] O) (AI (AA O (AA O (Af O (AL O (kp [2,8,53,0,7,54,9] O) (AI (AA O (AA O (Af O (AL O (kp [7,2,8,53,0,54,9] O) (WF.sl (AH 6 (AA O (CI O O (AC GC O (AC HS O (AS A6 bp O (mt (mt mh)) O KE O (Al O (a7.mono' (a9.trans (bi.trans (bj.trans (ap.trans (bk.trans (b3.trans b5))))))) Jv O λgi=>AF ?_))))))))))))))))))
   obtain⟨cv,E⟩:=MR E
   refine I9 (r:=AM.int) (zx:=0) FJ O ⟨O,by unfold AG;omega⟩ O O cv O O bp λeh gj bq ei=>AH 1 (AY O (AF (AZ (kp [10,7,2,8,53,0,54,9] O) (WF.sl (AH 3 (AA O (AA O ?_)))))))
   obtain⟨gl,cw,E⟩:=bd E
   refine A4 bq mh O O BG cw O λgm cx=>AF ?_
   obtain⟨ej,cy,E⟩:=bd E
   refine En (r:=AM.int) (l:=(List.replicate ((↑p0_w.b.Owners.length:Int):Int).toNat (0:Int))) (i:=0) (x:=ej) O O (⟨_,O,O,eb⟩:Rd _ _ AM.int _ D) cx cy Lq.id Ag (λ_=>rfl) bq .head λb6 cz ek=>AZ (kp [10,7,2,8,53,0,54] O) ?_
   obtain⟨a5,ab,el,em⟩:=cz.pubs .head
   refine Ts (m:=[(10,eh),(7,vI (BC (af+D))),(2,vI (BC (ae+D))),(8,vI C),(53,vI (↑p0_w.b.Places.length:Int)),(0,vP u 0),(54,vI C)]) 14 [0] (λi v hh=>match i with|0=>v=vP u 0|1=>v=vP u 0|2=>v=vP u 0|3=>v=vP u 23|4=>v=aj|5=>v=vP u 0|6=>v=vP u 0|7=>v=vP u 16|8=>v=vP u 16|9=>v=vI p0_w.s.Hour∧AG p0_w.s.Hour|10=>v=vI C∧AG C|11=>Sl a5 hh AM.int v (upd (List.replicate ((↑p0_w.b.Owners.length:Int):Int).toNat (0:Int)) 0 D)|12=>Rd a5 hh BT v (⟨p0_w.s.Hour,(-1),C,(-4),(upd (List.replicate ((↑p0_w.b.Owners.length:Int):Int).toNat (0:Int)) 0 D)⟩:Ae)|13=>Sl (SN a5 b6 hh) hh BT v ([(⟨p0_w.s.Hour,(-1),C,(-4),(upd (List.replicate ((↑p0_w.b.Owners.length:Int):Int).toNat (0:Int)) 0 D)⟩:Ae)]:List Ae)∧∃ad,v= .slice (some ad) 1 1|_=>False) [[],[],[(1,120)],[(2,121)],[(3,122)],[],[(5,124)],[(6,125)],[(7,126)],[(8,127)],[],[],[(9,128),(10,129),(11,130)],[(12,131)]] [(0,119),(4,123),(13,132)] mo (by kernel_rfl) [10,7,2,8,53,0,54] O (by kernel_rfl) (by kernel_rfl) (by kernel_rfl) (kp [10,7,2,8,53,0,54] O) (λi v h1 h2 o1 o2 hr=>?_) ?_ ?_ ?_
   ·match i,hr with
     |0,hr|1,hr|2,hr|3,hr|4,hr|5,hr|6,hr|7,hr|8,hr|9,hr|10,hr=>exact hr
     |11,hr=>exact Sl.mono' hr (o2.ext λb hb=>Nat.lt_of_lt_of_le (ab.1 b hb) o1.siz)
     |12,hr=>exact Rd.mono hr (o2.ext λb hb=>Nat.lt_of_lt_of_le (ab.1 b hb) o1.siz)
     |13,hr=>exact⟨Sl.mono' hr.1 (SN.mono ab.1 o1 o2),hr.2⟩
     |_+14,hr=>exact hr.elim
   ·refine QB.cons [] (by kernel_rfl) O O (by kernel_rfl) ?_ ?_
    ·intro mq hh o
     intro a hf
     exact⟨vP u 0,N8 hf O,O⟩
    exact trivial
   ·refine A0.cons O (λ_ _ _=>AH 1 (AA O (AO O))) (A0.cons O (λ_ _ _=>AH 1 (AA O (AO O))) (A0.cons O (λ_ _ _ _ en=>by cases en;exact AH 1 (CI O O (AO O))) (A0.cons O (λ_ _ _ _ eo=>by cases eo;exact AH 1 (AC Nn O (AO O))) (A0.cons O (λ_ _ o _ ep=>by cases ep;exact AH 1 (AS A6 (o.st ab) O (mt (mt mh)) O SG O (AO O))) (A0.cons O (λ_ _ _=>AH 1 (AA O (AO O))) (A0.cons O (λ_ _ _ _ eq=>by cases eq;exact AH 1 (CI O O (AO O))) (A0.cons O (λ_ _ _ _ er=>by cases er;exact AH 1 (AC CU O (AO O))) (A0.cons O (λ_ _ _ _ es=>by cases es;exact AH 1 (AC Id O (AO O))) (A0.cons O (λ_ _ o _ et=>by cases et;exact AH 1 (AS A6 (o.st ab) O (mt (mt mh)) O Ag O (AO ⟨O,av⟩))) (A0.cons O (λ_ _ _=>AH 1 (AA O (AO ⟨O,d5⟩))) (A0.cons O (λ_ _ o=>AH 1 (AA O (AO (em.mono' (o.ext ab.1))))) ?_)))))))))))
    refine A0.cons O ?_ ?_
    ·intro mq hh o
     intro gn eu gp ev ew a6
     have hsN:=o.st ab
     obtain⟨rfl,ey⟩:=eu
     obtain⟨rfl,ez⟩:=ev
     have a6:Sl _ _ AM.int ew (upd (List.replicate ((↑p0_w.b.Owners.length:Int):Int).toNat (0:Int)) 0 D):=a6
     refine AH 1 ?_
     obtain⟨c0,bw,rfl,gq⟩:=(a6).len
     exact Hy (cs:=[vI p0_w.s.Hour,vI (-1),vI C,vI (-4),(.slice c0 (upd (List.replicate ((↑p0_w.b.Owners.length:Int):Int).toNat (0:Int)) 0 D).length bw)]) ZI O O O (AO (BT.mk (x:=(⟨p0_w.s.Hour,(-1),C,(-4),(upd (List.replicate ((↑p0_w.b.Owners.length:Int):Int).toNat (0:Int)) 0 D)⟩:Ae)) ey (iq (n:=(-1)) O) ez (iq (n:=(-4)) O) a6))
    refine A0.cons O ?_ ?_
    ·intro mq hh o
     intro e0 au
     have hsN:=SN.st ab o
     have au:=Rd.mono (S':=(SN a5 b6 hh)) au ⟨λb hb=> .inl hb,λ_ _=>rfl,Nat.le_refl _⟩
     have au:Rd _ _ BT e0 (⟨p0_w.s.Hour,(-1),C,(-4),(upd (List.replicate ((↑p0_w.b.Owners.length:Int):Int).toNat (0:Int)) 0 D)⟩:Ae):=au
     have hsF:=hsN.fz
     obtain⟨gr,rfl,e1,e2,e3,e4,b7⟩:=BT.ex au
     obtain⟨c1,bx,rfl,gs⟩:=(b7).len
     refine Dw (cs:=[vI ((⟨p0_w.s.Hour,(-1),C,(-4),(upd (List.replicate ((↑p0_w.b.Owners.length:Int):Int).toNat (0:Int)) 0 D)⟩:Ae).Hour),vI ((⟨p0_w.s.Hour,(-1),C,(-4),(upd (List.replicate ((↑p0_w.b.Owners.length:Int):Int).toNat (0:Int)) 0 D)⟩:Ae).From),vI ((⟨p0_w.s.Hour,(-1),C,(-4),(upd (List.replicate ((↑p0_w.b.Owners.length:Int):Int).toNat (0:Int)) 0 D)⟩:Ae).To),vI ((⟨p0_w.s.Hour,(-1),C,(-4),(upd (List.replicate ((↑p0_w.b.Owners.length:Int):Int).toNat (0:Int)) 0 D)⟩:Ae).Way),(.slice c1 ((⟨p0_w.s.Hour,(-1),C,(-4),(upd (List.replicate ((↑p0_w.b.Owners.length:Int):Int).toNat (0:Int)) 0 D)⟩:Ae).Part).length bx)]) Un O O O O O O O hsF λgt gu c2 b8=>?_
     have e5:=b7.mono' b8
     have c3:=c2.bxos (r:=BT) (l:=([(⟨p0_w.s.Hour,(-1),C,(-4),(upd (List.replicate ((↑p0_w.b.Owners.length:Int):Int).toNat (0:Int)) 0 D)⟩:Ae)]:List Ae)) .head ⟨_,_,O,⟨_,O,e1,e2,e3,e4,e5⟩,O⟩ (by simp [maxLen])
     obtain⟨gv,c4,e6,e7⟩:=c3.pubs .head
     have br:=Fz.done o (b8.trans e6) c4
     exact Cv br.1 ⟨Sl.mono' e7 br.2,_,O⟩
    exact trivial
   intro gw b9 gx e8 gy e9 gz bs
   have c5:=SN.st ab b9
   cases e8
   cases e9
   obtain⟨bs,fw,rfl⟩:=bs
   obtain⟨c6,E⟩:=MR E
   refine JQ (r:=BT) (l:=ac) (xs:=([(⟨p0_w.s.Hour,(-1),C,(-4),(upd (List.replicate ((↑p0_w.b.Owners.length:Int):Int).toNat (0:Int)) 0 D)⟩:Ae)]:List Ae)) O O Un O (Sl.src bs) O c6 O c5 (λ_=>(.tail .head)) λg0 g1 bt fa=>AH 2 (CI O O (AC Nn O (AF ?_)))
   obtain⟨ax,ao,rfl,g2⟩:=bt.oslen (mt mh)
   refine Hz (vs:=[(.slice ax (ac++([(⟨p0_w.s.Hour,(-1),C,(-4),(upd (List.replicate ((↑p0_w.b.Owners.length:Int):Int).toNat (0:Int)) 0 D)⟩:Ae)]:List Ae)).length ao)]) (cs':=[.string p0_w.b.Name,M,vI p0_w.b.Cells,Q,U,V,W,X,Y,Z,vI p0_w.b.Err,F,G,H,I,J,vI p0_w.s.Hour,t,c,A,d,z,g,(.slice ax (ac++([(⟨p0_w.s.Hour,(-1),C,(-4),(upd (List.replicate ((↑p0_w.b.Owners.length:Int):Int).toNat (0:Int)) 0 D)⟩:Ae)]:List Ae)).length ao),k,p]) O O O O SG O bt (.tail (.tail .head)) O O λg3 c7 fb=>AZ (kp [7,2,53,0,54] O) (WF.nil (λaa ww hf hw=>?_))
   have c8:=c7.sel [1,1,0,0,0,0,0,0,0] 0 O
   exact⟨(BC (ae+D)),(BC (af+D)),(.slice ax (ac++([(⟨p0_w.s.Hour,(-1),C,(-4),(upd (List.replicate ((↑p0_w.b.Owners.length:Int):Int).toNat (0:Int)) 0 D)⟩:Ae)]:List Ae)).length ao),(ac++([(⟨p0_w.s.Hour,(-1),C,(-4),(upd (List.replicate ((↑p0_w.b.Owners.length:Int):Int).toNat (0:Int)) 0 D)⟩:Ae)]:List Ae)),(upd ak C (upd ed 0 (BC (bn+D)))),(upd ah 0 (BC (b4+D))),_,_,hf.sub (kp [53,0,54,2,7] O),hw,c8,(bk.trans (b3.trans (b5.trans (ei.trans (ek.trans (el.trans ((SN.ext ab.1 b9).trans (fa.trans fb)))))))),(BI _),(BI _),E⟩
  rintro aa ww ⟨aq,ar,a1,a2,a3,a4,g4,g5,hf,hw,c9,fc,fd,fe,E⟩
  refine Ad ?_ hf hw
  clear hf hw ww aa
  rw[ES] at E
  refine BY (.inl O) (Af O (AA O (AN (kp [54,53,0,2,7] O) (WF.nil (λaa ww hf hw=>?_)))))
  exact⟨aq,ar,(BC (C+1)),a1,a2,a3,a4,_,_,hf.sub (kp [53,0,2,7,54] O),hw,c9,(ap.trans fc),fd,fe,(BI _),E⟩
 refine Ko O (WF.nil (λaa ww hf hw=>?_))
 have da:=ag.sel [1,1,1,1,1,1,0,0,0] 0 O
 cases E
 exact J9 hf O hw J8 O (a9.trans (bi.trans (bj.trans ap))) ⟨_,_,_,O,da⟩
theorem Lg (hs:St S L h) {g:Value}{c:(List Int)}(m:Sl S h AM.int g c) {b:Value}{d:(List Int)}(o:Sl S h AM.int b d) {r:(List Int)}(E:Fl N c d=some r):
 CG Tryz.prog 16 #[g,b] S h (λv S' h'=>St S' (OS AM.int 3 v r::L) h'):=by
 refine BB (l:=[g,b]) 35 Tryz.func16 O Tryz.ntmps16 O λB=>?_
 rw[Fl] at E
 refine AI (AL O (kp [0,1] O) (WF.sl (AH 5 (AA O (Al O m BG O λb1=>AA O (Al O o BG O λb2=>OM O O O (AF ?_)))))))
 obtain⟨ab,E⟩:=MR E
 refine I9 (r:=AM.int) (zx:=0) FJ O ⟨O,by unfold AG;omega⟩ O O ab O O hs λv4 h5 ac e7=>AH 1 (AY O (AF (AZ (kp [5,0,1] O) (WF.sl (AH 2 (AA O (AA O (AF (R6 (r:=AM.int) (l:=(List.replicate ((max (↑c.length:Int) (↑d.length:Int)):Int).toNat (0:Int))) (xs:=c) O O BG (Sl.src (m.mono' e7)) O ac .head λh9 F G=>AZ (kp [5,1] O) (AD (AI (AA O ?_))))))))))))
 have H:=o.mono' (e7.trans G)
 refine Al O H BG O λao=>AA O (AN (kp [19,18,17,5] O) (Am (λa w=>∃(C:List Int),IV B S h9 (35,[]) a w [(5,v4)] (OS AM.int 3 v4 C::L) λ_ _=>GX N C=some r) ?_ ?_))
 ·refine A3 (λn1=>λa w=>∃(k:Int) (s:List Int),IV B S h9 (35,[]) a w [(18,vI (↑d.length:Int)),(17,b),(5,v4),(19,vI k)] (OS AM.int 3 v4 s::L) λ_ _=>AG k∧Ej N d (GX N) n1 k s=some r) N ?_ ?_ ?_
  ·intro y z t u
   exact⟨0,(Ms (List.replicate ((max (↑c.length:Int) (↑d.length:Int)):Int).toNat (0:Int)) c),_,_,t.sub (kp [18,17,5,19] O),u,F,(B9.refl S h9),(iq (n:=0) O),E⟩
  ·rintro y z ⟨_,_,_,_,_,_,_,_,_,E⟩
   rw[Ej] at E;cases E
  rintro n1 y z ⟨k,s,ap,aq,t,u,j,D,ar,E⟩
  refine Ad ?_ t u
  clear t u z y
  rw[Ej] at E
  refine AI (Aq O (AN (kp [20,18,17,5,19] O) (AD (AX O E (λad E=>?_) (λad E=>?_)))))
  ·refine AT (AD (A5 (AI (AA O ?_))))
   obtain⟨au,I,E⟩:=bd E
   refine BD O O (H.mono' D) BG I O λav ae=>Ah A6 j.1 O ae Ag O λaf=>AY O (AL O (kp [7,6,18,17,5,19] O) (EQ (AH 7 (AA O (AA O (AA O (AA O ?_)))))))
   obtain⟨aw,J,E⟩:=bd E
   refine A4 j mh O O BG J O λax K=>?_
   obtain⟨ay,M,E⟩:=bd E
   have ag:=j.epAt mh M FM.id K
   refine Ah A6 (λ_ x=>x) O ag Ag O λah=>AA O (AF ?_)
   obtain⟨Q,U,E⟩:=bd E
   refine BZ O O O Qt O j (IE (St.all _) ah af U) λaz a0 a1 A ai a2 p=>?_
   obtain⟨rfl,aj,an⟩:=p
   refine AH 1 ?_
   obtain⟨a3,V,E⟩:=bd E
   refine A4 A mh O O BG V O λa4 W=>AF ?_
   obtain⟨ak,X,E⟩:=bd E
   refine En (r:=AM.int) (l:=s) (i:=k) (x:=ak) O O (⟨_,O,O,aj⟩:Rd _ _ AM.int _ Q) W X Lq.id Ag (λ_=>rfl) A .head λa5 Y al=>AZ (kp [18,17,5,19] O) (BK (BY (.inl O) (Af O (AA O (AN (kp [19,18,17,5] O) (WF.nil (λy z t u=>?_)))))))
   exact⟨(BC (k+1)),(upd s k Q),_,_,t.sub (kp [18,17,5,19] O),u,Y,(D.trans (ai.trans al)),(BI _),E⟩
  refine A9 O (λy z t u=>?_)
  exact⟨s,_,_,t.sub (kp [5] O),u,j,D,E⟩
 rintro y z ⟨C,a6,a7,t,u,Z,am,E⟩
 refine Ad ?_ t u
 clear t u z y
 rw[GX] at E
 refine AI (AA O (AL O (kp [4] O) (Ac (λy z t u=>?_))))
 cases E
 exact Dm t u O O (e7.trans (G.trans am)) Z
theorem QE (hs:St S L h) {j:Value}{A:(List Ao)}(ac:Sl S h Ap j A) {c:Int}(ba:AG c) {t:Int}(I:AG t) {u:Int}(J:AG u) {r:(List (List Int))×(List Ao)}(E:Jy N A c t u=some r):
 CG Tryz.prog 60 #[j,vI c,vI t,vI u] S h (λv S' h'=>∃ce cf:Value,v= .tuple #[ce,cf]∧St S' (OS (AM.sl AM.int) 29 ce r.1::OS Ap 60 cf r.2::L) h'):=by
 refine BB (l:=[j,vI c,vI t,vI u]) 79 Tryz.func60 O Tryz.ntmps60 O λB=>?_
 rw[Jy] at E
 refine AI (AY O (AL O (kp [0,1,2,3] O) (AD (Bl (.inl O) hs (AA O ?_)))))
 obtain⟨y1,d9,E⟩:=bd E
 refine CE O O O Up O (λh' o=>I2 (St.all h') I (iq (n:=0) O) (iq (n:=64) O) d9) λr2=>?_
 have r3:=r2
 refine AY O (BJ (kp [2,0,1,3] O) λh4 ea e6=>AD (Bl (.inl O) ea (AA O ?_)))
 obtain⟨y7,eb,E⟩:=bd E
 refine CE O O O Up O (λh' o=>I2 (St.all h') J (iq (n:=0) O) (iq (n:=16) O) eb) λr8=>?_
 have r9:=r8
 refine AY O (BJ (kp [3,2,0,1] O) λfv cg ch=>WF.sl (AH 1 (AA O (AF ?_))))
 obtain⟨ci,E⟩:=MR E
 refine I9 (r:=(AM.sl AM.int)) (zx:=[]) XJ O ⟨_,O,.inl ⟨O,O⟩⟩ O O ci O O cg λz bb a0 cj=>AH 1 (AY O (AF (AZ (kp [8,3,2,0,1] O) (AD (AI (AA O (JO a0 mh O FO O λfw=>AA O (AN (kp [21,20,8,3,2,0,1] O) (Am (λa w=>∃(ar:List (List Int)),IV B S bb (79,[]) a w [(8,z),(2,vI y1),(0,j),(1,vI c)] (OS (AM.sl AM.int) 29 z ar::L) λ_ _=>FW N A c y1 ar=some r) ?_ ?_)))))))))
 ·refine A3 (λn1=>λa w=>∃(X:Int) (af:List (List Int)),IV B S bb (79,[]) a w [(20,vI (↑(List.replicate (y1:Int).toNat ([]:(List Int))).length:Int)),(8,z),(3,vI y7),(2,vI y1),(0,j),(1,vI c),(21,vI X)] (OS (AM.sl AM.int) 29 z af::L) λ_ _=>AG X∧FV N y1 y7 (FW N A c y1) n1 X af=some r) N ?_ ?_ ?_
  ·intro F G y C
   exact⟨0,(List.replicate (y1:Int).toNat ([]:(List Int))),_,_,y.sub (kp [20,8,3,2,0,1,21] O),C,a0,(B9.refl S bb),(iq (n:=0) O),E⟩
  ·rintro F G ⟨_,_,_,_,_,_,_,_,_,E⟩
   rw[FV] at E;cases E
  rintro n1 F G ⟨X,af,fx,fy,y,C,a1,ck,f0,E⟩
  refine Ad ?_ y C
  clear y C G F
  rw[FV] at E
  refine AI (Aq O (AN (kp [22,20,8,3,2,0,1,21] O) (AD (AX O E (λec E=>?_) (λec E=>?_)))))
  ·refine AT (AD (A5 (AI (AA O (AL O (kp [10,20,8,3,2,0,1,21] O) (EQ (AH 3 (AA O (AA O (AA O (AF ?_)))))))))))
   obtain⟨cl,E⟩:=MR E
   refine I9 (r:=AM.int) (zx:=0) FJ O ⟨O,by unfold AG;omega⟩ O O cl O O a1 λf1 f2 a2 ed=>AH 1 ?_
   obtain⟨f3,cm,E⟩:=bd E
   refine A4 a2 (mt mh) O O FO cm O λf4 cn=>AF ?_
   obtain⟨ee,co,E⟩:=bd E
   obtain⟨f5,cp,ef,eg⟩:=a2.pubs .head
   refine En (r:=(AM.sl AM.int)) (l:=af) (i:=X) (x:=ee) O O (Mv eg) cn co Lq.id BP (λ_=>rfl) cp .head λf6 cq eh=>AZ (kp [20,8,3,2,0,1,21] O) (BK (BY (.inl O) (Af O (AA O (AN (kp [21,20,8,3,2,0,1] O) (WF.nil (λF G y C=>?_)))))))
   exact⟨(BC (X+1)),(upd af X (List.replicate (y7:Int).toNat (0:Int))),_,_,y.sub (kp [20,8,3,2,0,1,21] O),C,cq,(ck.trans (ed.trans (ef.trans eh))),(BI _),E⟩
  refine A9 O (λF G y C=>?_)
  exact⟨af,_,_,y.sub (kp [8,2,0,1] O),C,a1,ck,E⟩
 rintro F G ⟨ar,bc,be,y,C,cr,ct,E⟩
 refine Ad ?_ y C
 clear y C G F
 rw[FW] at E
 refine AI (AA O ?_)
 have a3:=e6.trans (ch.trans (cj.trans ct))
 refine Yq O O O (ac.mono' a3) JX O λa4=>?_
 have cu:=cr.zs Ap 60 a4
 refine AL O (kp [9,8,2,0,1] O) (AD (AI (AA O ?_)))
 have cv:=ac.mono' a3
 refine Al O cv JX O λf7=>AA O (AN (kp [34,33,32,9,8,2,1] O) (Am (λa w=>∃(bf:Value) (bg:List Ao) (bh:List (List Int)),IV B bc be (79,[]) a w [(8,z),(9,bf)] (OS Ap 60 bf bg::OS (AM.sl AM.int) 29 z bh::L) λ_ _=>Gm N bg bh=some r) ?_ ?_))
 ·refine A3 (λn3=>λa w=>∃(M:Value) (Y:List Ao) (K:Int) (Z:List (List Int)),IV B bc be (79,[]) a w [(33,vI (↑A.length:Int)),(32,j),(8,z),(2,vI y1),(1,vI c),(9,M),(34,vI K)] (OS Ap 60 M Y::OS (AM.sl AM.int) 29 z Z::L) λ_ _=>AG K∧Ei N A c y1 (Gm N) n3 Y K Z=some r) N ?_ ?_ ?_
  ·intro F G y C
   exact⟨(.slice a4 0 0),([]:List Ao),0,ar,_,_,y.sub (kp [33,32,8,2,1,9,34] O),C,cu,(B9.refl bc be),(iq (n:=0) O),E⟩
  ·rintro F G ⟨_,_,_,_,_,_,_,_,_,_,_,E⟩
   rw[Ei] at E;cases E
  rintro n3 F G ⟨M,Y,K,Z,D,ei,y,C,ag,bi,f8,E⟩
  refine Ad ?_ y C
  clear y C G F
  rw[Ei] at E
  refine AI (Aq O (AN (kp [35,33,32,8,2,1,9,34] O) (AD (AX O E (λej E=>?_) (λej E=>?_)))))
  ·refine AT (AD (Am (λa w=>∃(au:Value) (av:List Ao) (aw:List (List Int)),IV B D ei (79,[]) a w [(33,vI (↑A.length:Int)),(32,j),(8,z),(2,vI y1),(1,vI c),(34,vI K),(9,au)] (OS Ap 60 au av::OS (AM.sl AM.int) 29 z aw::L) λ_ _=>IQ N K (Ei N A c y1 (Gm N) n3) av aw=some r) ?_ ?_))
   ·refine WF.sl (AH 2 ?_)
    obtain⟨g,cw,E⟩:=bd E
    refine BD O O (cv.mono' bi) JX cw O λf9 ek=>B4 A6 ag.1 O ek Ku (λe=>by cases e) O λga el=>AF (Cs QT O ag λQ gb cx bj=>?_)
    obtain⟨cy,rfl,em,bk,bl⟩:=Ap.ex (el.mono bj)
    refine HJ (vs:=[vI g.At,vI g.To,cy]) (cs':=[vI g.At,vI g.To,cy]) O O O (AE O (AE O (AE bl.one EA))) Ku O cx .head O O λab d ax=>AZ (kp [12,33,32,8,2,1,9,34] O) (AI (AC Nt O (AS A6 d O mh O Ag O (AA O (Ft O (AA O (AV 4 46 (.bool ((decide (g.At≤c))&&(decide (0≤g.To)))) ?_ ?_)))))))
    ·cases gc:(decide (g.At≤c))
     ·exact Aa O O
     exact AB O (AC K0 O (AB O (AS A6 d O mh O Ag O (AB O (Gv O (AJ O (AU O)))))))
    refine AA O (AV 5 52 (.bool (((decide (g.At≤c))&&(decide (0≤g.To)))&&(decide (g.To<y1)))) ?_ ?_)
    ·cases gd:((decide (g.At≤c))&&(decide (0≤g.To)))
     ·exact Aa O O
     exact AB O (AC K0 O (AB O (AS A6 d O mh O Ag O (AB O (AA O (AB O (Aq O (AJ O (AU O)))))))))
    refine AN (kp [52,12,33,32,8,2,1,9,34] O) (AX O E (λcz E=>?_) (λcz E=>?_))
    ·obtain ⟨eq,bm,E⟩:=bd E
     obtain⟨a5,bn,E⟩:=bd E
     obtain⟨ah,bo,E⟩:=bd E
     obtain⟨er,bp,E⟩:=bd E
     refine ND (m:=[(12,vP Q 0),(33,vI (↑A.length:Int)),(32,j),(8,z),(2,vI y1),(1,vI c),(9,M),(34,vI K)]) 12 (λi v H=>match i with|0=>v=z|1=>v=vP Q 1|2=>v=vI g.To∧AG g.To|3=>v=z|4=>v=vP Q 1|5=>v=vI g.To∧AG g.To|6=>EP z (g.To.toNat*((AM.sl AM.int)).sz+0) v|7=>Sl D H AM.int v a5|8=>v=vP Q 2|9=>Sl D H AM.int v g.Part|10=>Sl (SN D ab H) H AM.int v ah|11=>EP z (g.To.toNat*((AM.sl AM.int)).sz+0) v|_=>False) [[],[],[(1,54)],[],[],[(4,57)],[(3,56),(5,58)],[(6,59)],[],[(8,61)],[(7,60),(9,62)],[(0,53),(2,55)]] [(10,63),(11,64)] mo (by kernel_rfl) [12,33,32,8,2,1,9,34] O (by kernel_rfl) (by kernel_rfl) (by kernel_rfl) (kp [12,33,32,8,2,1,9,34] O) (λi v h1 h2 o1 o2 hr=>?_) ?_ ?_
     ·match i,hr with
       |0,hr|1,hr|2,hr|3,hr|4,hr|5,hr|6,hr|8,hr|11,hr=>exact hr
       |7,hr|9,hr=>exact Sl.mono' hr (o2.ext λb hb=>Nat.lt_of_lt_of_le (d.1 b hb) o1.siz)
       |10,hr=>exact Sl.mono' hr (SN.mono d.1 o1 o2)
       |_+12,hr=>exact hr.elim
     ·refine A0.cons O (λ_ _ _=>AH 1 (AA O (AO O))) (A0.cons O (λ_ _ _=>AH 1 (AC K0 O (AO O))) (A0.cons O (λ_ _ o _ c0=>by cases c0;exact AH 1 (AS A6 (o.st d) O mh O Ag O (AO ⟨O,bk⟩))) (A0.cons O (λ_ _ _=>AH 1 (AA O (AO O))) (A0.cons O (λ_ _ _=>AH 1 (AC K0 O (AO O))) (A0.cons O (λ_ _ o _ c1=>by cases c1;exact AH 1 (AS A6 (o.st d) O mh O Ag O (AO ⟨O,bk⟩))) (A0.cons O (λ_ _ o=>by intro es c2 et c3;cases c2;obtain ⟨rfl,eu⟩:=c3;exact AH 1 (A4 (o.st d) (mt (mt mh)) O O FO bm O λev bq=>AO bq)) ?_))))))
      refine A0.cons O ?_ ?_
      ·intro mq H o
       intro ew c4
       have hsN:=o.st d
       refine AH 1 ?_
       have c5:=hsN.epAt (mt (mt mh)) bn FM.id c4
       exact An A6 (λ_ x=>x) O c5 BP O λey c6=>AO c6
      refine A0.cons O (λ_ _ _=>AH 1 (AC Kz O (AO O))) (A0.cons O (λ_ _ o _ c7=>by cases c7;exact AH 1 (AS A6 (o.st d) O mh O BP O (AO (bl.mono' (ax.trans (o.ext d.1)))))) ?_)
      refine A0.cons O ?_ ?_
      ·intro mq H o
       intro c8 U c9 V
       have hsN:=SN.st d o
       have U:=Sl.mono' (S':=(SN D ab H)) U ⟨λb hb=> .inl hb,λ_ _=>rfl,Nat.le_refl _⟩
       have U:Sl _ _ AM.int c8 a5:=U
       have V:=Sl.mono' (S':=(SN D ab H)) V ⟨λb hb=> .inl hb,λ_ _=>rfl,Nat.le_refl _⟩
       have V:Sl _ _ AM.int c9 g.Part:=V
       have hsF:=hsN.fz
       refine BZ O O O XV O hsF (Lg (St.all _) (U.mono (λb hb=>hsF.1 b hb) (λ_ _=>rfl)) (V.mono (λb hb=>hsF.1 b hb) (λ_ _=>rfl)) bo) λez e0 e1 en da db p=>?_
       have br:=p
       have ai:=hsF.join db br ⟨OS.flat (λ{_ _ _ _ _ _} k=>k),trivial⟩
       simp only[List.cons_append,List.nil_append] at ai
       obtain⟨e2,bs,dc,dd⟩:=ai.pubs .head
       have aj:=Fz.done o (da.trans dc) bs
       exact Cv aj.1 (Sl.mono' dd aj.2)
      exact A0.cons O (λ_ _ o=>by intro e3 de e4 df;cases de;obtain ⟨rfl,e5⟩:=df;exact AH 1 (A4 (o.st d) (mt (mt mh)) O O FO bp O λe7 bt=>AO bt)) trivial
     intro e8 a6 dg ak e9 dh
     have bu:=SN.st d a6
     have ak:Sl _ _ AM.int dg ah:=ak
     obtain⟨di,bv,E⟩:=bd E
     refine En (r:=(AM.sl AM.int)) (l:=Z) (i:=g.To) (x:=di) O O (Mv ak) dh bv Lq.id BP (λ_=>rfl) bu (.tail (.tail .head)) λfa bw dj=>AZ (kp [33,32,8,2,1,9,34] O) (WF.nil (λF G y C=>?_))
     have bx:=bw.sel [1,1] 1 O
     exact⟨M,Y,(upd Z g.To ah),_,_,y.sub (kp [33,32,8,2,1,34,9] O),C,bx,(bj.trans (ax.trans ((SN.ext d.1 a6).trans dj))),E⟩
    obtain⟨s,bz,E⟩:=bd E
    refine ND (m:=[(12,vP Q 0),(33,vI (↑A.length:Int)),(32,j),(8,z),(2,vI y1),(1,vI c),(9,M),(34,vI K)]) 10 (λi v H=>match i with|0=>v=M|1=>v=vP Q 0|2=>v=vI g.At∧AG g.At|3=>v=vP Q 1|4=>v=vI g.To∧AG g.To|5=>v=vP Q 2|6=>Sl D H AM.int v g.Part|7=>Sl (SN D ab H) H AM.int v s|8=>Rd (SN D ab H) H Ap v ({ g with Part:=s}:Ao)|9=>Sl (SN D ab H) H Ap v ([({ g with Part:=s}:Ao)]:List Ao)∧∃ad,v= .slice (some ad) 1 1|_=>False) [[],[],[(1,66)],[],[(3,68)],[],[(5,70)],[(6,71)],[(2,67),(4,69),(7,72)],[(8,73)]] [(0,65),(9,74)] mo (by kernel_rfl) [12,33,32,8,2,1,9,34] O (by kernel_rfl) (by kernel_rfl) (by kernel_rfl) (kp [12,33,32,8,2,1,9,34] O) (λi v h1 h2 o1 o2 hr=>?_) ?_ ?_
    ·match i,hr with
      |0,hr|1,hr|2,hr|3,hr|4,hr|5,hr=>exact hr
      |6,hr=>exact Sl.mono' hr (o2.ext λb hb=>Nat.lt_of_lt_of_le (d.1 b hb) o1.siz)
      |7,hr=>exact Sl.mono' hr (SN.mono d.1 o1 o2)
      |8,hr=>exact Rd.mono hr (SN.mono d.1 o1 o2)
      |9,hr=>exact⟨Sl.mono' hr.1 (SN.mono d.1 o1 o2),hr.2⟩
      |_+10,hr=>exact hr.elim
    ·refine A0.cons O (λ_ _ _=>AH 1 (AA O (AO O))) (A0.cons O (λ_ _ _=>AH 1 (AC Nt O (AO O))) (A0.cons O (λ_ _ o _ dk=>by cases dk;exact AH 1 (AS A6 (o.st d) O mh O Ag O (AO ⟨O,em⟩))) (A0.cons O (λ_ _ _=>AH 1 (AC K0 O (AO O))) (A0.cons O (λ_ _ o _ dl=>by cases dl;exact AH 1 (AS A6 (o.st d) O mh O Ag O (AO ⟨O,bk⟩))) (A0.cons O (λ_ _ _=>AH 1 (AC Kz O (AO O))) (A0.cons O (λ_ _ o _ dm=>by cases dm;exact AH 1 (AS A6 (o.st d) O mh O BP O (AO (bl.mono' (ax.trans (o.ext d.1)))))) ?_))))))
     refine A0.cons O ?_ ?_
     ·intro mq H o
      intro dn W
      have hsN:=SN.st d o
      have W:=Sl.mono' (S':=(SN D ab H)) W ⟨λb hb=> .inl hb,λ_ _=>rfl,Nat.le_refl _⟩
      have W:Sl _ _ AM.int dn g.Part:=W
      have hsF:=hsN.fz
      refine BZ O O O P0 O hsF (C8 (St.all _) (W.mono (λb hb=>hsF.1 b hb) (λ_ _=>rfl)) bz) λfb fc fd eo dp dq p=>?_
      have b0:=p
      have am:=hsF.join dq b0 ⟨OS.flat (λ{_ _ _ _ _ _} k=>k),trivial⟩
      simp only[List.cons_append,List.nil_append] at am
      obtain⟨fe,b1,dr,ds⟩:=am.pubs .head
      have an:=Fz.done o (dp.trans dr) b1
      exact Cv an.1 (Sl.mono' ds an.2)
     refine A0.cons O ?_ ?_
     ·intro mq H o
      intro ff dt fg du dv ae
      have hsN:=SN.st d o
      obtain⟨rfl,dw⟩:=dt
      obtain⟨rfl,dx⟩:=du
      have ae:Sl _ _ AM.int dv s:=ae
      refine AH 1 ?_
      obtain⟨b2,ay,rfl,fh⟩:=(ae).len
      exact Hy (cs:=[vI g.At,vI g.To,(.slice b2 s.length ay)]) ZH O O O (AO (Ap.mk (x:=({ g with Part:=s}:Ao)) dw dx ae))
     refine A0.cons O ?_ ?_
     ·intro mq H o
      intro dy ao
      have hsN:=SN.st d o
      have ao:Rd _ _ Ap dy ({ g with Part:=s}:Ao):=ao
      have hsF:=hsN.fz
      obtain⟨fi,rfl,dz,d0,a7⟩:=Ap.ex ao
      obtain⟨b3,az,rfl,fj⟩:=(a7).len
      refine Dw (cs:=[vI (({ g with Part:=s}:Ao).At),vI (({ g with Part:=s}:Ao).To),(.slice b3 (({ g with Part:=s}:Ao).Part).length az)]) Qn O O O O O O O hsF λfk fl b4 a8=>?_
      have d1:=a7.mono' a8
      have b5:=b4.bxos (r:=Ap) (l:=([({ g with Part:=s}:Ao)]:List Ao)) .head ⟨_,_,O,⟨_,O,dz,d0,d1⟩,O⟩ (by simp [maxLen])
      obtain⟨fm,b6,d2,d3⟩:=b5.pubs .head
      have ap:=Fz.done o (a8.trans d2) b6
      exact Cv ap.1 ⟨Sl.mono' d3 ap.2,_,O⟩
     exact trivial
    intro fn a9 fo d4 fp aq
    have b7:=SN.st d a9
    cases d4
    obtain⟨aq,ep,rfl⟩:=aq
    obtain⟨b8,E⟩:=MR E
    refine JQ (r:=Ap) (l:=Y) (xs:=([({ g with Part:=s}:Ao)]:List Ao)) O O Qn O (Sl.src aq) O b8 O b7 (λ_=>(.tail .head)) λd5 fq b9 d6=>AH 1 (AY O (AF (AZ (kp [9,33,32,8,2,1,34] O) (WF.nil (λF G y C=>?_)))))
    have ca:=b9.sel [1,1] 1 O
    exact⟨d5,(Y++([({ g with Part:=s}:Ao)]:List Ao)),Z,_,_,y.sub (kp [33,32,8,2,1,34,9] O),C,ca,(bj.trans (ax.trans ((SN.ext d.1 a9).trans d6))),E⟩
   rintro F G ⟨au,av,aw,fr,fs,y,C,cb,d7,E⟩
   refine Ad ?_ y C
   clear y C G F
   rw[IQ] at E
   refine BY (.inl O) (Af O (AA O (AN (kp [34,33,32,8,2,1,9] O) (WF.nil (λF G y C=>?_)))))
   exact⟨au,av,(BC (K+1)),aw,_,_,y.sub (kp [33,32,8,2,1,9,34] O),C,cb,(bi.trans d7),(BI _),E⟩
  refine A9 O (λF G y C=>?_)
  exact⟨M,Y,Z,_,_,y.sub (kp [8,9] O),C,ag,bi,E⟩
 rintro F G ⟨bf,bg,bh,ft,fu,y,C,cc,d8,E⟩
 refine Ad ?_ y C
 clear y C G F
 rw[Gm] at E
 refine AI (AA O (AA O (AY O (AL O (kp [9,8] O) (Ac (λF G y C=>?_))))))
 have cd:=cc.sel [1,0] 0 O
 cases E
 exact J9 y O C (IC (Im y (v:=_) O) (IC (Im y (v:=_) O) J8)) O (e6.trans (ch.trans (cj.trans (ct.trans d8)))) ⟨_,_,O,cd⟩
end Go.Proofs.YtblcgjadhemlbaaGreat
