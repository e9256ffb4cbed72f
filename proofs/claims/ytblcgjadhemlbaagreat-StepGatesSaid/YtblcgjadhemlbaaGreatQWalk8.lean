import Derived.Test.YtblcgjadhemlbaaGreatQWalk7
namespace Go.Proofs.YtblcgjadhemlbaaGreat
open Go.RowKit
set_option linter.unusedVariables false
set_option linter.unusedSimpArgs false
set_option maxRecDepth 10000
set_option maxHeartbeats 2000000
variable {N:Nat}{S:Nat→Prop}{L:List HP}{h:Aq}
theorem Mn {u:Nat}{p0_w:Ai}{M:Value}{Q:Value}{U:Value}{V:Value}{W:Value}{X:Value}{Y:Value}{Z:Value}{F:Value}{G:Value}{H:Value}{I:Value}{J:Value}{t:Value}{c:Value}{A:Value}{d:Value}{z:Value}{g:Value}{K:Value}{k:Value}{p:Value}(hs:St S (Bx u 84 [.string p0_w.b.Name,M,.int .i64 p0_w.b.Cells,Q,U,V,W,X,Y,Z,.int .i64 p0_w.b.Err,F,G,H,I,J,.int .i64 p0_w.s.Hour,t,c,A,d,z,g,K,k,p]::OO AN.int 3 29 t p0_w.s.Own::OS AN.int 3 c p0_w.s.Rem::OS A4 69 d p0_w.s.Gates::OS AN.int 3 z p0_w.s.In::OS AN.int 3 g p0_w.s.Out::OS BT 50 K p0_w.moves::OS AN.int 3 k p0_w.peaks::OS An 60 p p0_w.sent::L) h) (dl:p0_w.b.Name.size≤maxLen) (a7:Sl S h AN.str M p0_w.b.Owners) (dm:AI p0_w.b.Cells) (a8:Sl S h Br Q p0_w.b.Places) (dn:Sl S h Bh U p0_w.b.Links) (dp:Sl S h F6 V p0_w.b.Towns) (dq:Sl S h D4 W p0_w.b.Gauges) (dr:Sl S h Fo X p0_w.b.Roads) (ds:Sl S h Cw Y p0_w.b.Shelters) (dt:Sl S h AN.int Z p0_w.b.Room) (cd:AI p0_w.b.Err) (ai:Sl S h AN.int F p0_w.in_.Rain) (ce:Sl S h Ek G p0_w.in_.Faults) (cf:Sl S h Hg H p0_w.in_.Cmds) (cg:Sl S h FJ I p0_w.in_.Takes) (ch:Sl S h F7 J p0_w.in_.Swaps) (av:AI p0_w.s.Hour) (aw:Sl S h An A p0_w.s.Queue) {r:(List (List Int))×(List Int)×(List Av)}(E:HC N p0_w=some r):
 CG Tryz.prog 32 #[.pointer (some ⟨u,0,none⟩)] S h (λv S' h'=>∃w_0_17 w_0_21 w_0_23:Value,v= .tuple #[]∧St S' (Bx u 84 [.string p0_w.b.Name,M,.int .i64 p0_w.b.Cells,Q,U,V,W,X,Y,Z,.int .i64 p0_w.b.Err,F,G,H,I,J,.int .i64 p0_w.s.Hour,w_0_17,c,A,d,w_0_21,g,w_0_23,k,p]::OO AN.int 3 29 w_0_17 r.1::OS AN.int 3 c p0_w.s.Rem::OS A4 69 d p0_w.s.Gates::OS AN.int 3 w_0_21 r.2.1::OS AN.int 3 g p0_w.s.Out::OS BT 50 w_0_23 r.2.2::OS AN.int 3 k p0_w.peaks::OS An 60 p p0_w.sent::L) h'):=by
 refine BC (l:=[.pointer (some ⟨u,0,none⟩)]) 137 Tryz.func32 O Tryz.ntmps32 O λB=>?_
 rw[HC] at E
 refine AA (AG (.inl O) (AF O O (AD (kp [2,0] O) (AA (AA (AG (.inl O) (AB O O (CI O O (AL O CV O (AL O D3 O (AS A3 hs O mh O G3 O (Vz hs (mt mh) O E8 O λb1=>AB O O (AD (kp [17,16,15,2,0] O) (Aj (λa w=>∃(i2:Int),IV B S h (137,[]) a w [(0,.pointer (some ⟨u,0,none⟩)),(2,.int .i64 i2)] (Bx u 84 [.string p0_w.b.Name,M,.int .i64 p0_w.b.Cells,Q,U,V,W,X,Y,Z,.int .i64 p0_w.b.Err,F,G,H,I,J,.int .i64 p0_w.s.Hour,t,c,A,d,z,g,K,k,p]::OO AN.int 3 29 t p0_w.s.Own::OS AN.int 3 c p0_w.s.Rem::OS A4 69 d p0_w.s.Gates::OS AN.int 3 z p0_w.s.In::OS AN.int 3 g p0_w.s.Out::OS BT 50 K p0_w.moves::OS AN.int 3 k p0_w.peaks::OS An 60 p p0_w.sent::L) λ_ _=>AI i2∧DP N p0_w i2=some r) ?_ ?_))))))))))))))
 ·refine Ay (λn1=>λa w=>∃(i8:Int) (bb:Int),IV B S h (137,[]) a w [(16,.int .i64 (↑p0_w.s.Own.length:Int)),(15,t),(0,.pointer (some ⟨u,0,none⟩)),(2,.int .i64 i8),(17,.int .i64 bb)] (Bx u 84 [.string p0_w.b.Name,M,.int .i64 p0_w.b.Cells,Q,U,V,W,X,Y,Z,.int .i64 p0_w.b.Err,F,G,H,I,J,.int .i64 p0_w.s.Hour,t,c,A,d,z,g,K,k,p]::OO AN.int 3 29 t p0_w.s.Own::OS AN.int 3 c p0_w.s.Rem::OS A4 69 d p0_w.s.Gates::OS AN.int 3 z p0_w.s.In::OS AN.int 3 g p0_w.s.Out::OS BT 50 K p0_w.moves::OS AN.int 3 k p0_w.peaks::OS An 60 p p0_w.sent::L) λ_ _=>AI i8∧AI bb∧DN N p0_w (DP N p0_w) n1 i8 bb=some r) N ?_ ?_ ?_
  ·intro aa ww hf hw
   exact⟨0,0,_,_,hf.sub (kp [16,15,0,2,17] O),hw,hs,(B8.refl S h),(iq (n:=0) O),(iq (n:=0) O),E⟩
  ·rintro aa ww ⟨_,_,_,_,_,_,_,_,_,_,E⟩
   rw[DN] at E;cases E
  rintro n1 aa ww ⟨i8,bb,hx,hy,hf,hw,ay,du,r9,hz,E⟩
  refine Ad ?_ hf hw
  clear hf hw ww aa
  rw[DN] at E
  refine AA (AG (.inl O) (A0 O O O (AD (kp [18,16,15,0,2,17] O) (AA (AW O (λci=>?_) (λci=>?_))))))
  ·have E:=BU ci E
   refine AT (AA (A6 (AA (AG (.inl O) ?_))))
   obtain⟨h0,dv,E⟩:=bd E
   refine NX (r:=AN.int) ay (mt mh) O O E8 dv O λh3 dw=>?_
   obtain⟨h4,dx,E⟩:=bd E
   refine Qu (r:=AN.int) A3 ay (mt mh) O dx dw BY O λh5 gd ft=>AF O O (AD (kp [4,16,15,0,2,17] O) (Bn (.inl O) ay (AB O O (AB O O ?_))))
   obtain⟨fu,dy,E⟩:=bd E
   refine CM O O O Mj O (λh' o=>Ea (St.all h') (ft.mono (λb hb=>Nat.lt_of_lt_of_le hb o.siz) (λb hb=>o.same b hb)) dy) λfv=>?_
   have h6:=fv
   refine Ap O O O (AF O O (BK (kp [2,16,15,0,17] O) λh7 dz fw=>BJ (AG (.inl O) (Ap O O O (AB O O (AD (kp [17,2,16,15,0] O) (WF.nil (λaa ww hf hw=>?_))))))))
   exact⟨(BD (i8+fu)),(BD (bb+1)),_,_,hf.sub (kp [16,15,0,2,17] O),hw,dz,(du.trans fw),(BG _),(BG _),E⟩
  have E:=BV ci E
  refine BB O (λaa ww hf hw=>?_)
  exact⟨i8,_,_,hf.sub (kp [0,2] O),hw,ay,du,r9,E⟩
 rintro aa ww ⟨i2,cj,ck,hf,hw,b3,a9,r3,E⟩
 refine Ad ?_ hf hw
 clear hf hw ww aa
 rw[DP] at E
 refine AA (AA (AG (.inl O) (AB O O (CI O O (AL O CV O (AL O JR O (AS A3 b3 O mh O Kk O ?_)))))))
 have d0:=aw.mono' a9
 refine Ag O d0 JF O λh8=>AB O O (AD (kp [32,31,30,0,2] O) (Aj (λa w=>∃(bc:Int),IV B cj ck (137,[]) a w [(0,.pointer (some ⟨u,0,none⟩)),(2,.int .i64 bc)] (Bx u 84 [.string p0_w.b.Name,M,.int .i64 p0_w.b.Cells,Q,U,V,W,X,Y,Z,.int .i64 p0_w.b.Err,F,G,H,I,J,.int .i64 p0_w.s.Hour,t,c,A,d,z,g,K,k,p]::OO AN.int 3 29 t p0_w.s.Own::OS AN.int 3 c p0_w.s.Rem::OS A4 69 d p0_w.s.Gates::OS AN.int 3 z p0_w.s.In::OS AN.int 3 g p0_w.s.Out::OS BT 50 K p0_w.moves::OS AN.int 3 k p0_w.peaks::OS An 60 p p0_w.sent::L) λ_ _=>AI bc∧DO N p0_w bc=some r) ?_ ?_))
 ·refine Ay (λn3=>λa w=>∃(ba:Int) (be:Int),IV B cj ck (137,[]) a w [(31,.int .i64 (↑p0_w.s.Queue.length:Int)),(30,A),(0,.pointer (some ⟨u,0,none⟩)),(2,.int .i64 ba),(32,.int .i64 be)] (Bx u 84 [.string p0_w.b.Name,M,.int .i64 p0_w.b.Cells,Q,U,V,W,X,Y,Z,.int .i64 p0_w.b.Err,F,G,H,I,J,.int .i64 p0_w.s.Hour,t,c,A,d,z,g,K,k,p]::OO AN.int 3 29 t p0_w.s.Own::OS AN.int 3 c p0_w.s.Rem::OS A4 69 d p0_w.s.Gates::OS AN.int 3 z p0_w.s.In::OS AN.int 3 g p0_w.s.Out::OS BT 50 K p0_w.moves::OS AN.int 3 k p0_w.peaks::OS An 60 p p0_w.sent::L) λ_ _=>AI ba∧AI be∧DM N p0_w (DO N p0_w) n3 ba be=some r) N ?_ ?_ ?_
  ·intro aa ww hf hw
   exact⟨i2,0,_,_,hf.sub (kp [31,30,0,2,32] O),hw,b3,(B8.refl cj ck),r3,(iq (n:=0) O),E⟩
  ·rintro aa ww ⟨_,_,_,_,_,_,_,_,_,_,E⟩
   rw[DM] at E;cases E
  rintro n3 aa ww ⟨ba,be,h9,ia,hf,hw,bf,cl,fx,ib,E⟩
  refine Ad ?_ hf hw
  clear hf hw ww aa
  rw[DM] at E
  refine AA (AG (.inl O) (A0 O O O (AD (kp [33,31,30,0,2,32] O) (AA (AW O (λcm=>?_) (λcm=>?_))))))
  ·have E:=BU cm E
   refine AT (AA (A6 (AA (Am (AJ 2 ?_)))))
   have fy:=d0.mono' cl
   obtain⟨bx,d1,E⟩:=bd E
   refine A8 O O fy JF d1 O λic f0=>Bw A3 bf.1 O f0 KP (λe=>by cases e) O λie f1=>AE (Cg Pe O bf λig ih d2 d3=>?_)
   have f2:=f1.mono d3
   obtain⟨d4,rfl,ii,ij,d5⟩:=An.ex f2
   refine Ge (vs:=[.int .i64 bx.At,.int .i64 bx.To,d4]) (cs':=[.int .i64 bx.At,.int .i64 bx.To,d4]) O O O (AH O (AH O (AH d5.one D2))) KP O d2 .head O O λik bg d6=>AX (kp [6,31,30,0,2,32] O) (Bn (.inl O) bg (AB O O (AL O KW O (AS BZ bg O mh O BY O ?_))))
   have f3:=d5.mono' d6
   obtain⟨f4,d7,E⟩:=bd E
   refine CM O O O Mj O (λh' o=>Ea (St.all h') (f3.mono' (o.all bg.1)) d7) λf5=>?_
   have il:=f5
   refine Ap O O O (AF O O (BK (kp [2,31,30,0,32] O) λim d8 f6=>BJ (AG (.inl O) (Ap O O O (AB O O (AD (kp [32,2,31,30,0] O) (WF.nil (λaa ww hf hw=>?_))))))))
   have d9:=d8.sel [1,1,1,1,1,1,1,1,1] 1 O
   have ea:=cl.trans (d3.trans (d6.trans f6))
   exact⟨(BD (ba+f4)),(BD (be+1)),_,_,hf.sub (kp [31,30,0,2,32] O),hw,d9,ea,(BG _),(BG _),E⟩
  have E:=BV cm E
  refine BB O (λaa ww hf hw=>?_)
  exact⟨ba,_,_,hf.sub (kp [0,2] O),hw,bf,cl,fx,E⟩
 rintro aa ww ⟨bc,eb,io,hf,hw,bh,bi,f7,E⟩
 refine Ad ?_ hf hw
 clear hf hw ww aa
 rw[DO] at E
 refine AA (Bn (.inl O) bh (AB O O (CI O O (AL O CV O (AL O Jz O (AS BZ bh O mh O BY O ?_))))))
 obtain⟨f8,ec,E⟩:=bd E
 refine CM O O O Mj O (λh' o=>Ea (St.all h') ((bh.oslAll (mt (mt (mt (mt mh))))).mono (λb hb=>Nat.lt_of_lt_of_le hb o.siz) (λb hb=>o.same b hb)) ec) λf9=>?_
 have ga:=f9
 refine AF O O (BK (kp [7,0,2] O) λed b4 bj=>AA (AG (.inl O) (AB O O (CI O O (AL O Fq O (AL O DK O (AS A3 b4 O mh O F9 O ?_)))))))
 have ee:=a9.trans (bi.trans bj)
 have gb:=a8.mono' ee
 refine Ag O gb FA O λip=>AB O O (AD (kp [54,53,7,0,2] O) (A6 (Ay (λn4=>λa w=>∃(ae:Int) (af:Int) (C:Int) (aj:Value) (ac:List Av) (ak:List (List Int)) (ah:List Int),IV B eb ed (137,[]) a w [(53,.int .i64 (↑p0_w.b.Places.length:Int)),(0,.pointer (some ⟨u,0,none⟩)),(2,.int .i64 ae),(7,.int .i64 af),(54,.int .i64 C)] (OS BT 50 aj ac::Bx u 84 [.string p0_w.b.Name,M,.int .i64 p0_w.b.Cells,Q,U,V,W,X,Y,Z,.int .i64 p0_w.b.Err,F,G,H,I,J,.int .i64 p0_w.s.Hour,t,c,A,d,z,g,aj,k,p]::OO AN.int 3 29 t ak::OS AN.int 3 c p0_w.s.Rem::OS A4 69 d p0_w.s.Gates::OS AN.int 3 z ah::OS AN.int 3 g p0_w.s.Out::OS AN.int 3 k p0_w.peaks::OS An 60 p p0_w.sent::L) λ_ _=>AI ae∧AI af∧AI C∧CC N p0_w n4 ae af C ac ak ah=some r) N ?_ ?_ ?_)))
 ·intro aa ww hf hw
  have cn:=b4.sel [6,0,0,0,0,0,0,0,0] 0 O
  exact⟨bc,f8,0,K,p0_w.moves,p0_w.s.Own,p0_w.s.In,_,_,hf.sub (kp [53,0,2,7,54] O),hw,cn,(B8.refl eb ed),f7,ga,(iq (n:=0) O),E⟩
 ·rintro aa ww ⟨_,_,_,_,_,_,_,_,_,_,_,_,_,_,_,_,E⟩
  rw[CC] at E;cases E
 rintro n4 aa ww ⟨ae,af,C,aj,ac,ak,ah,az,a0,hf,hw,ag,ap,ef,eg,eh,E⟩
 refine Ad ?_ hf hw
 clear hf hw ww aa
 rw[CC] at E
 refine AA (AG (.inl O) (A0 O O O (AD (kp [55,53,0,2,7,54] O) (AA (AW O (λbk=>?_) (λbk=>?_))))))
 ·have E:=BU bk E
  refine AT (AA (Aj (λa w=>∃(aq:Int) (ar:Int) (a1:Value) (a2:List Av) (a3:List (List Int)) (a4:List Int),IV B az a0 (137,[]) a w [(53,.int .i64 (↑p0_w.b.Places.length:Int)),(0,.pointer (some ⟨u,0,none⟩)),(54,.int .i64 C),(2,.int .i64 aq),(7,.int .i64 ar)] (OS BT 50 a1 a2::Bx u 84 [.string p0_w.b.Name,M,.int .i64 p0_w.b.Cells,Q,U,V,W,X,Y,Z,.int .i64 p0_w.b.Err,F,G,H,I,J,.int .i64 p0_w.s.Hour,t,c,A,d,z,g,a1,k,p]::OO AN.int 3 29 t a3::OS AN.int 3 c p0_w.s.Rem::OS A4 69 d p0_w.s.Gates::OS AN.int 3 z a4::OS AN.int 3 g p0_w.s.Out::OS AN.int 3 k p0_w.peaks::OS An 60 p p0_w.sent::L) λ_ _=>AI aq∧AI ar∧EO N C (CC N p0_w n4) aq ar a2 a3 a4=some r) ?_ ?_))
  ·refine AA (AG (.inl O) (AB O O (AF O O (AD (kp [8,53,0,2,7,54] O) (AA (AG (.inl O) (AF O O (AD (kp [9,8,53,0,2,7,54] O) (AA (AA (AG (.inl O) (AB O O (AB O O (CI O O (AL O MN O (AL O Qc O (AS A3 ag O (mt mh) O BY O ?_)))))))))))))))))
   have co:=a9.trans (bi.trans (bj.trans ap))
   have ei:=ai.mono' co
   refine Ag O ei BP O λge=>A0 O O O (AD (kp [64,9,8,53,0,2,7,54] O) (GW (λa w=>∃(D:Int),IV B az a0 (137,[]) a w [(8,.int .i64 C),(53,.int .i64 (↑p0_w.b.Places.length:Int)),(0,.pointer (some ⟨u,0,none⟩)),(2,.int .i64 ae),(7,.int .i64 af),(54,.int .i64 C),(9,.int .i64 D)] (OS BT 50 aj ac::Bx u 84 [.string p0_w.b.Name,M,.int .i64 p0_w.b.Cells,Q,U,V,W,X,Y,Z,.int .i64 p0_w.b.Err,F,G,H,I,J,.int .i64 p0_w.s.Hour,t,c,A,d,z,g,aj,k,p]::OO AN.int 3 29 t ak::OS AN.int 3 c p0_w.s.Rem::OS A4 69 d p0_w.s.Gates::OS AN.int 3 z ah::OS AN.int 3 g p0_w.s.Out::OS AN.int 3 k p0_w.peaks::OS An 60 p p0_w.sent::L) λ_ _=>AI D∧FK N p0_w ae af C ac ak ah (EO N C (CC N p0_w n4)) D=some r) ?_ ?_))
   ·refine AW O (λbl=>?_) (λbl=>?_)
    ·have E:=BU bl E
     refine AG (.inl O) (AB O O (CI O O (AL O MN O (AL O Qc O (AS A3 ag O (mt mh) O BY O (AB O O ?_))))))
     have cp:=a9.trans (bi.trans (bj.trans ap))
     have ej:=ai.mono' cp
     obtain⟨ek,cq,E⟩:=bd E
     refine A8 O O ej BP cq O λgf el=>Af A3 ag.1 O el Ae O λem=>AB O O (Dg O O O (AB O O (Dg O O O (W1 O O O O (AF O O (AD (kp [9,8,53,0,2,7,54] O) (WF.nil (λaa ww hf hw=>?_))))))))
     exact⟨(min (min ek (BD (1125899906842624-ae))) (BD (1152921504606846976-af))),_,_,hf.sub (kp [8,53,0,2,7,54,9] O),hw,ag,(B8.refl az a0),(Ks (Ks em (BG _)) (BG _)),E⟩
    have E:=BV bl E
    refine AT (WF.nil (λaa ww hf hw=>?_))
    exact⟨0,_,_,hf.sub (kp [8,53,0,2,7,54,9] O),hw,ag,(B8.refl az a0),(iq (n:=0) O),E⟩
   rintro aa ww ⟨D,gg,gh,hf,hw,am,bm,en,E⟩
   refine Ad ?_ hf hw
   clear hf hw ww aa
   rw[FK] at E
   refine AA (AA (AG (.inl O) (AB O O (HW O O O (AD (kp [79,8,53,0,2,7,54,9] O) (AW O (λbn=>?_) (λbn=>?_)))))))
   ·have E:=BU bn E
    refine BB O (λaa ww hf hw=>?_)
    exact⟨ae,af,aj,ac,ak,ah,_,_,hf.sub (kp [53,0,54,2,7] O),hw,am,bm,ef,eg,E⟩
   have E:=BV bn E
   refine AT (AA (Am (AJ 13 (AB O O (CI O O (AL O CV O (AL O D3 O (AS A3 am O (mt mh) O G3 O (AB O O ?_)))))))))
   obtain⟨gi,cr,E⟩:=bd E
   refine NX (r:=AN.int) am (mt (mt mh)) O O E8 cr O λgj bo=>?_
   obtain⟨eo,bp,E⟩:=bd E
   refine Qu (r:=AN.int) A3 am (mt (mt mh)) O bp bo BY O λgk ct b5=>?_
   obtain⟨bq,cu,E⟩:=bd E
   refine TU O O b5 BP cu O λgl ep fs=>Af A3 (λ_ x=>x) O ep Ae O λgm=>AB O O (Ap O O O ?_)
   obtain⟨gn,br,E⟩:=bd E
   refine TU O O b5 BP br O λgp gq bz=>AE ?_
   have cv:=am.pick (.tail (.tail .head))
   refine W8 (r:=AN.int) (i:=C) (j:=0) (y:=(BD (bq+D))) O O (⟨_,O,O,(BG _)⟩:Rd _ _ AN.int _ (BD (bq+D))) bo ct bz bp br Ae (λ_=>rfl) cv λgr an b6=>AX (kp [8,53,0,2,7,54,9] O) (AA (Am (AJ 10 (AB O O (CI O O (AL O CV O (AL O Jz O (AS A3 an O (mt (mt mh)) O BY O ?_))))))))
   obtain⟨gs,cw,E⟩:=bd E
   refine A5 an (mt (mt (mt (mt (mt mh))))) O O BP cw O λgt cx=>?_
   obtain⟨b7,cy,E⟩:=bd E
   have eq:=an.epAt (mt (mt (mt (mt (mt mh))))) cy El.id cx
   refine Af A3 (λ_ x=>x) O eq Ae O λgu=>AB O O (Ap O O O ?_)
   obtain⟨gv,cz,E⟩:=bd E
   refine A5 an (mt (mt (mt (mt (mt mh))))) O O BP cz O λgw c0=>AE ?_
   obtain⟨er,c1,E⟩:=bd E
   refine Ef (r:=AN.int) (l:=ah) (i:=0) (x:=er) O O (⟨_,O,O,(BG _)⟩:Rd _ _ AN.int _ (BD (b7+D))) c0 c1 LG.id Ae (λ_=>rfl) an (.tail (.tail (.tail (.tail (.tail .head))))) λgx bs b8=>AX (kp [8,53,0,2,7,54,9] O) (AA (AG (.inl O) (AB O O (AB O O (Ap O O O (AF O O (AD (kp [2,8,53,0,7,54,9] O) (AA (AG (.inl O) (AB O O (AB O O (Ap O O O (AF O O (AD (kp [7,2,8,53,0,54,9] O) (AA (Am (AJ 6 (AB O O (CI O O (AL O Fq O (AL O HS O (AS A3 bs O (mt (mt mh)) O J6 O ?_))))))))))))))))))))))
   have c2:=a9.trans (bi.trans (bj.trans (ap.trans (bm.trans (b6.trans b8)))))
   have es:=a7.mono' c2
   refine Ag O es Js O λgy=>AE ?_
   obtain⟨c3,E⟩:=Ly E
   refine Iq (r:=AN.int) (zx:=0) E4 O ⟨O,by unfold AI;omega⟩ O O c3 O O bs λet gz bt eu=>AJ 1 (AF O O (AE (AX (kp [10,7,2,8,53,0,54,9] O) (AA (Am (AJ 3 (AB O O (AB O O ?_))))))))
   obtain⟨g0,c4,E⟩:=bd E
   refine A5 bt mh O O BP c4 O λg1 c5=>AE ?_
   obtain⟨ev,c6,E⟩:=bd E
   refine Ef (r:=AN.int) (l:=(List.replicate ((↑p0_w.b.Owners.length:Int):Int).toNat (0:Int))) (i:=0) (x:=ev) O O (⟨_,O,O,en⟩:Rd _ _ AN.int _ D) c5 c6 LG.id Ae (λ_=>rfl) bt .head λb9 c7 ew=>AX (kp [10,7,2,8,53,0,54] O) ?_
   obtain⟨a5,ab,ey,ez⟩:=c7.pubs .head
   refine ST (m:=[(10,et),(7,.int .i64 (BD (af+D))),(2,.int .i64 (BD (ae+D))),(8,.int .i64 C),(53,.int .i64 (↑p0_w.b.Places.length:Int)),(0,.pointer (some ⟨u,0,none⟩)),(54,.int .i64 C)]) 14 [0] (λi v hh=>match i with|0=>v= .pointer (some ⟨u,0,none⟩)|1=>v= .pointer (some ⟨u,0,none⟩)|2=>v= .pointer (some ⟨u,0,none⟩)|3=>v= .pointer (some ⟨u,23,none⟩)|4=>v=aj|5=>v= .pointer (some ⟨u,0,none⟩)|6=>v= .pointer (some ⟨u,0,none⟩)|7=>v= .pointer (some ⟨u,16,none⟩)|8=>v= .pointer (some ⟨u,16,none⟩)|9=>v= .int .i64 p0_w.s.Hour∧AI p0_w.s.Hour|10=>v= .int .i64 C∧AI C|11=>Sl a5 hh AN.int v (upd (List.replicate ((↑p0_w.b.Owners.length:Int):Int).toNat (0:Int)) 0 D)|12=>Rd a5 hh BT v (⟨p0_w.s.Hour,(-1),C,(-4),(upd (List.replicate ((↑p0_w.b.Owners.length:Int):Int).toNat (0:Int)) 0 D)⟩:Av)|13=>Sl (SN a5 b9 hh) hh BT v ([(⟨p0_w.s.Hour,(-1),C,(-4),(upd (List.replicate ((↑p0_w.b.Owners.length:Int):Int).toNat (0:Int)) 0 D)⟩:Av)]:List Av)∧∃ad,v= .slice (some ad) 1 1|_=>False) [[],[],[(1,120)],[(2,121)],[(3,122)],[],[(5,124)],[(6,125)],[(7,126)],[(8,127)],[],[],[(9,128),(10,129),(11,130)],[(12,131)]] [(0,119),(4,123),(13,132)] mo (by kernel_rfl) [10,7,2,8,53,0,54] O (by kernel_rfl) (by kernel_rfl) (by kernel_rfl) (kp [10,7,2,8,53,0,54] O) (λi v h1 h2 o1 o2 hr=>?_) ?_ ?_ ?_
   ·match i,hr with
     |0,hr=>exact hr
     |1,hr=>exact hr
     |2,hr=>exact hr
     |3,hr=>exact hr
     |4,hr=>exact hr
     |5,hr=>exact hr
     |6,hr=>exact hr
     |7,hr=>exact hr
     |8,hr=>exact hr
     |9,hr=>exact hr
     |10,hr=>exact hr
     |11,hr=>exact Sl.mono' hr (o2.ext λb hb=>Nat.lt_of_lt_of_le (ab.1 b hb) o1.siz)
     |12,hr=>exact Rd.mono hr (o2.ext λb hb=>Nat.lt_of_lt_of_le (ab.1 b hb) o1.siz)
     |13,hr=>exact⟨Sl.mono' hr.1 (SN.mono ab.1 o1 o2),hr.2⟩
     |_+14,hr=>exact hr.elim
   ·refine PO.cons [] (by kernel_rfl) O O (by kernel_rfl) ?_ ?_
    ·intro mq hh o
     intro a hf
     exact⟨.pointer (some ⟨u,0,none⟩),Nc hf O,O⟩
    exact trivial
   ·refine Ax.cons O ?_ ?_
    ·intro mq hh o
     have hsN:=o.st ab
     exact AJ 1 (AB O O (AE (AK (BA.refl _) O)))
    refine Ax.cons O ?_ ?_
    ·intro mq hh o
     have hsN:=o.st ab
     exact AJ 1 (AB O O (AE (AK (BA.refl _) O)))
    refine Ax.cons O ?_ ?_
    ·intro mq hh o
     intro g2 e0
     have hsN:=o.st ab
     cases e0
     exact AJ 1 (CI O O (AE (AK (BA.refl _) O)))
    refine Ax.cons O ?_ ?_
    ·intro mq hh o
     intro g3 e1
     have hsN:=o.st ab
     cases e1
     exact AJ 1 (AL O NI O (AE (AK (BA.refl _) O)))
    refine Ax.cons O ?_ ?_
    ·intro mq hh o
     intro g4 e2
     have hsN:=o.st ab
     cases e2
     exact AJ 1 (AS A3 hsN O (mt (mt mh)) O Q4 O (AE (AK (BA.refl _) O)))
    refine Ax.cons O ?_ ?_
    ·intro mq hh o
     have hsN:=o.st ab
     exact AJ 1 (AB O O (AE (AK (BA.refl _) O)))
    refine Ax.cons O ?_ ?_
    ·intro mq hh o
     intro g5 e3
     have hsN:=o.st ab
     cases e3
     exact AJ 1 (CI O O (AE (AK (BA.refl _) O)))
    refine Ax.cons O ?_ ?_
    ·intro mq hh o
     intro g6 e4
     have hsN:=o.st ab
     cases e4
     exact AJ 1 (AL O CV O (AE (AK (BA.refl _) O)))
    refine Ax.cons O ?_ ?_
    ·intro mq hh o
     intro g7 e5
     have hsN:=o.st ab
     cases e5
     exact AJ 1 (AL O ID O (AE (AK (BA.refl _) O)))
    refine Ax.cons O ?_ ?_
    ·intro mq hh o
     intro g8 e6
     have hsN:=o.st ab
     cases e6
     exact AJ 1 (AS A3 hsN O (mt (mt mh)) O Ae O (AE (AK (BA.refl _) ⟨O,av⟩)))
    refine Ax.cons O ?_ ?_
    ·intro mq hh o
     have hsN:=o.st ab
     exact AJ 1 (AB O O (AE (AK (BA.refl _) ⟨O,eh⟩)))
    refine Ax.cons O ?_ ?_
    ·intro mq hh o
     have hsN:=o.st ab
     refine AJ 1 (AB O O (AE ?_))
     have e7:=ez.mono' (o.ext ab.1)
     exact AK (BA.refl _) e7
    refine Ax.cons O ?_ ?_
    ·intro mq hh o
     intro g9 e8 ha e9 fa a6
     have hsN:=o.st ab
     obtain⟨rfl,fb⟩:=e8
     obtain⟨rfl,fc⟩:=e9
     have a6:Sl _ _ AN.int fa (upd (List.replicate ((↑p0_w.b.Owners.length:Int):Int).toNat (0:Int)) 0 D):=a6
     refine AJ 1 ?_
     obtain⟨c8,b0,rfl,hc⟩:=(a6).len
     exact HX (cs:=[.int .i64 p0_w.s.Hour,.int .i64 (-1),.int .i64 C,.int .i64 (-4),(.slice c8 (upd (List.replicate ((↑p0_w.b.Owners.length:Int):Int).toNat (0:Int)) 0 D).length b0)]) XN O O O (AE (AK (BA.refl _) (BT.mk (x:=(⟨p0_w.s.Hour,(-1),C,(-4),(upd (List.replicate ((↑p0_w.b.Owners.length:Int):Int).toNat (0:Int)) 0 D)⟩:Av)) fb (iq (n:=(-1)) O) fc (iq (n:=(-4)) O) a6)))
    refine Ax.cons O ?_ ?_
    ·intro mq hh o
     intro fd au
     have hsN:=SN.st ab o
     have au:=Rd.mono (S':=(SN a5 b9 hh)) au ⟨λb hb=> .inl hb,λ_ _=>rfl,Nat.le_refl _⟩
     have au:Rd _ _ BT fd (⟨p0_w.s.Hour,(-1),C,(-4),(upd (List.replicate ((↑p0_w.b.Owners.length:Int):Int).toNat (0:Int)) 0 D)⟩:Av):=au
     have hsF:=hsN.fz
     obtain⟨hd,rfl,fe,ff,fg,fh,ca⟩:=BT.ex au
     obtain⟨c9,b2,rfl,he⟩:=(ca).len
     refine Dw (cs:=[.int .i64 ((⟨p0_w.s.Hour,(-1),C,(-4),(upd (List.replicate ((↑p0_w.b.Owners.length:Int):Int).toNat (0:Int)) 0 D)⟩:Av).Hour),.int .i64 ((⟨p0_w.s.Hour,(-1),C,(-4),(upd (List.replicate ((↑p0_w.b.Owners.length:Int):Int).toNat (0:Int)) 0 D)⟩:Av).From),.int .i64 ((⟨p0_w.s.Hour,(-1),C,(-4),(upd (List.replicate ((↑p0_w.b.Owners.length:Int):Int).toNat (0:Int)) 0 D)⟩:Av).To),.int .i64 ((⟨p0_w.s.Hour,(-1),C,(-4),(upd (List.replicate ((↑p0_w.b.Owners.length:Int):Int).toNat (0:Int)) 0 D)⟩:Av).Way),(.slice c9 ((⟨p0_w.s.Hour,(-1),C,(-4),(upd (List.replicate ((↑p0_w.b.Owners.length:Int):Int).toNat (0:Int)) 0 D)⟩:Av).Part).length b2)]) TN O O O O O O O hsF λhg hi da cb=>?_
     have fi:=ca.mono' cb
     have db:=da.bxos (r:=BT) (l:=([(⟨p0_w.s.Hour,(-1),C,(-4),(upd (List.replicate ((↑p0_w.b.Owners.length:Int):Int).toNat (0:Int)) 0 D)⟩:Av)]:List Av)) .head ⟨_,_,O,⟨_,O,fe,ff,fg,fh,fi⟩,O⟩ (by simp [maxLen])
     obtain⟨hj,dc,fj,fk⟩:=db.pubs .head
     have bu:=Fz.done o (cb.trans fj) dc
     exact AK bu.1 ⟨Sl.mono' fk bu.2,_,O⟩
    exact trivial
   intro hk cc hl fl hm fm hn bv
   have dd:=SN.st ab cc
   cases fl
   cases fm
   obtain⟨bv,gc,rfl⟩:=bv
   obtain⟨de,E⟩:=Ly E
   refine I8 (r:=BT) (l:=ac) (xs:=([(⟨p0_w.s.Hour,(-1),C,(-4),(upd (List.replicate ((↑p0_w.b.Owners.length:Int):Int).toNat (0:Int)) 0 D)⟩:Av)]:List Av)) O O TN O (Sl.src bv) O de O dd (λ_=>(.tail .head)) λho hp bw fn=>AJ 2 (CI O O (AL O NI O (AE ?_)))
   obtain⟨ax,ao,rfl,hq⟩:=bw.oslen (mt mh)
   refine HY (vs:=[(.slice ax (ac++([(⟨p0_w.s.Hour,(-1),C,(-4),(upd (List.replicate ((↑p0_w.b.Owners.length:Int):Int).toNat (0:Int)) 0 D)⟩:Av)]:List Av)).length ao)]) (cs':=[.string p0_w.b.Name,M,.int .i64 p0_w.b.Cells,Q,U,V,W,X,Y,Z,.int .i64 p0_w.b.Err,F,G,H,I,J,.int .i64 p0_w.s.Hour,t,c,A,d,z,g,(.slice ax (ac++([(⟨p0_w.s.Hour,(-1),C,(-4),(upd (List.replicate ((↑p0_w.b.Owners.length:Int):Int).toNat (0:Int)) 0 D)⟩:Av)]:List Av)).length ao),k,p]) O O O O Q4 O bw (.tail (.tail .head)) O O λht df fo=>AX (kp [7,2,53,0,54] O) (WF.nil (λaa ww hf hw=>?_))
   have dg:=df.sel [1,1,0,0,0,0,0,0,0] 0 O
   have dh:=bm.trans (b6.trans (b8.trans (eu.trans (ew.trans (ey.trans ((SN.ext ab.1 cc).trans (fn.trans fo)))))))
   exact⟨(BD (ae+D)),(BD (af+D)),(.slice ax (ac++([(⟨p0_w.s.Hour,(-1),C,(-4),(upd (List.replicate ((↑p0_w.b.Owners.length:Int):Int).toNat (0:Int)) 0 D)⟩:Av)]:List Av)).length ao),(ac++([(⟨p0_w.s.Hour,(-1),C,(-4),(upd (List.replicate ((↑p0_w.b.Owners.length:Int):Int).toNat (0:Int)) 0 D)⟩:Av)]:List Av)),(upd ak C (upd eo 0 (BD (bq+D)))),(upd ah 0 (BD (b7+D))),_,_,hf.sub (kp [53,0,54,2,7] O),hw,dg,dh,(BG _),(BG _),E⟩
  rintro aa ww ⟨aq,ar,a1,a2,a3,a4,hu,hv,hf,hw,di,fp,fq,fr,E⟩
  refine Ad ?_ hf hw
  clear hf hw ww aa
  rw[EO] at E
  refine AG (.inl O) (Ap O O O (AB O O (AD (kp [54,53,0,2,7] O) (WF.nil (λaa ww hf hw=>?_)))))
  exact⟨aq,ar,(BD (C+1)),a1,a2,a3,a4,_,_,hf.sub (kp [53,0,2,7,54] O),hw,di,(ap.trans fp),fq,fr,(BG _),E⟩
 have E:=BV bk E
 refine KI O (WF.nil (λaa ww hf hw=>?_))
 have dj:=ag.sel [1,1,1,1,1,1,0,0,0] 0 O
 cases E
 have dk:=a9.trans (bi.trans (bj.trans ap))
 exact Jn hf O hw Jm O dk ⟨_,_,_,O,dj⟩
theorem K5 (hs:St S L h) {g:Value}{c:(List Int)}(m:Sl S h AN.int g c) {b:Value}{d:(List Int)}(o:Sl S h AN.int b d) {r:(List Int)}(E:Im N c d=some r):
 CG Tryz.prog 16 #[g,b] S h (λv S' h'=>St S' (OS AN.int 3 v r::L) h'):=by
 refine BC (l:=[g,b]) 35 Tryz.func16 O Tryz.ntmps16 O λB=>?_
 rw[Im] at E
 refine AA (AG (.inl O) (AF O O (AD (kp [0,1] O) (AA (Am (AJ 5 (AB O O (Ag O m BP O λb1=>AB O O (Ag O o BP O λb2=>PE O O O (AE ?_))))))))))
 obtain⟨ab,E⟩:=Ly E
 refine Iq (r:=AN.int) (zx:=0) E4 O ⟨O,by unfold AI;omega⟩ O O ab O O hs λZ h5 ac e7=>AJ 1 (AF O O (AE (AX (kp [5,0,1] O) (AA (Am (AJ 2 (AB O O (AB O O (AE ?_)))))))))
 have k8:=m.mono' e7
 refine Qv (r:=AN.int) (l:=(List.replicate ((max (↑c.length:Int) (↑d.length:Int)):Int).toNat (0:Int))) (xs:=c) O O BP (Sl.src k8) O ac .head λh9 A C=>AX (kp [5,1] O) (AA (AA (AG (.inl O) (AB O O ?_))))
 have D:=o.mono' (e7.trans C)
 refine Ag O D BP O λao=>AB O O (AD (kp [19,18,17,5] O) (Aj (λa w=>∃(u:List Int),IV B S h9 (35,[]) a w [(5,Z)] (OS AN.int 3 Z u::L) λ_ _=>Ho N u=some r) ?_ ?_))
 ·refine Ay (λn1=>λa w=>∃(k:Int) (s:List Int),IV B S h9 (35,[]) a w [(18,.int .i64 (↑d.length:Int)),(17,b),(5,Z),(19,.int .i64 k)] (OS AN.int 3 Z s::L) λ_ _=>AI k∧GH N d (Ho N) n1 k s=some r) N ?_ ?_ ?_
  ·intro aa ww hf hw
   exact⟨0,(Lw (List.replicate ((max (↑c.length:Int) (↑d.length:Int)):Int).toNat (0:Int)) c),_,_,hf.sub (kp [18,17,5,19] O),hw,A,(B8.refl S h9),(iq (n:=0) O),E⟩
  ·rintro aa ww ⟨_,_,_,_,_,_,_,_,_,E⟩
   rw[GH] at E;cases E
  rintro n1 aa ww ⟨k,s,ap,aq,hf,hw,j,y,ar,E⟩
  refine Ad ?_ hf hw
  clear hf hw ww aa
  rw[GH] at E
  refine AA (AG (.inl O) (A0 O O O (AD (kp [20,18,17,5,19] O) (AA (AW O (λz=>?_) (λz=>?_))))))
  ·have E:=BU z E
   refine AT (AA (A6 (AA (AG (.inl O) (AB O O ?_)))))
   have ad:=D.mono' y
   obtain⟨au,F,E⟩:=bd E
   refine A8 O O ad BP F O λav ae=>Af A3 j.1 O ae Ae O λaf=>AF O O (AF O O (AD (kp [7,6,18,17,5,19] O) (Am (AJ 7 (AB O O (AB O O (AB O O (AB O O ?_))))))))
   obtain⟨aw,G,E⟩:=bd E
   refine A5 j mh O O BP G O λax H=>?_
   obtain⟨ay,I,E⟩:=bd E
   have ag:=j.epAt mh I El.id H
   refine Af A3 (λ_ x=>x) O ag Ae O λah=>AB O O (AE ?_)
   obtain⟨J,K,E⟩:=bd E
   refine Bb O O O P1 O j (Hp (St.all _) ah af K) λaz a0 a1 t ai a2 p=>?_
   obtain⟨rfl,aj,an⟩:=p
   refine AJ 1 ?_
   obtain⟨a3,M,E⟩:=bd E
   refine A5 t mh O O BP M O λa4 Q=>AE ?_
   obtain⟨ak,U,E⟩:=bd E
   refine Ef (r:=AN.int) (l:=s) (i:=k) (x:=ak) O O (⟨_,O,O,aj⟩:Rd _ _ AN.int _ J) Q U LG.id Ae (λ_=>rfl) t .head λa5 V al=>AX (kp [18,17,5,19] O) (BJ (AG (.inl O) (Ap O O O (AB O O (AD (kp [19,18,17,5] O) (WF.nil (λaa ww hf hw=>?_)))))))
   have W:=y.trans (ai.trans al)
   exact⟨(BD (k+1)),(upd s k J),_,_,hf.sub (kp [18,17,5,19] O),hw,V,W,(BG _),E⟩
  have E:=BV z E
  refine BB O (λaa ww hf hw=>?_)
  exact⟨s,_,_,hf.sub (kp [5] O),hw,j,y,E⟩
 rintro aa ww ⟨u,a6,a7,hf,hw,X,am,E⟩
 refine Ad ?_ hf hw
 clear hf hw ww aa
 rw[Ho] at E
 refine AA (AG (.inl O) (AB O O (AF O O (AD (kp [4] O) (Ab (λaa ww hf hw=>?_))))))
 cases E
 have Y:=e7.trans (C.trans am)
 exact Dp hf hw O O Y X
theorem PS (hs:St S L h) {j:Value}{z:(List Az)}(W:Sl S h An j z) {d:Int}(a7:AI d) {t:Int}(C:AI t) {u:Int}(D:AI u) {r:(List (List Int))×(List Az)}(E:Jc N z d t u=some r):
 CG Tryz.prog 60 #[j,.int .i64 d,.int .i64 t,.int .i64 u] S h (λv S' h'=>∃cg ch:Value,v= .tuple #[cg,ch]∧St S' (OS (AN.sl AN.int) 29 cg r.1::OS An 60 ch r.2::L) h'):=by
 refine BC (l:=[j,.int .i64 d,.int .i64 t,.int .i64 u]) 79 Tryz.func60 O Tryz.ntmps60 O λB=>?_
 rw[Jc] at E
 refine AA (AG (.inl O) (AF O O (AF O O (AD (kp [0,1,2,3] O) (AA (Bn (.inl O) hs (AB O O ?_)))))))
 obtain⟨X,ed,E⟩:=bd E
 refine CM O O O TP O (λh' o=>Ij (St.all h') C (iq (n:=0) O) (iq (n:=64) O) ed) λr2=>?_
 have r3:=r2
 refine AF O O (BK (kp [2,0,1,3] O) λh4 ee e6=>AA (Bn (.inl O) ee (AB O O ?_)))
 obtain⟨y7,ef,E⟩:=bd E
 refine CM O O O TP O (λh' o=>Ij (St.all h') D (iq (n:=0) O) (iq (n:=16) O) ef) λr8=>?_
 have r9:=r8
 refine AF O O (BK (kp [3,2,0,1] O) λf7 ci cj=>AA (Am (AJ 1 (AB O O (AE ?_)))))
 obtain⟨ck,E⟩:=Ly E
 refine Iq (r:=(AN.sl AN.int)) (zx:=[]) Ve O ⟨_,O,.inl ⟨O,O⟩⟩ O O ck O O ci λy a8 ax cl=>AJ 1 (AF O O (AE (AX (kp [8,3,2,0,1] O) (AA (AA (AG (.inl O) (AB O O (LJ ax mh O E8 O λf8=>AB O O (AD (kp [21,20,8,3,2,0,1] O) (Aj (λa w=>∃(ao:List (List Int)),IV B S a8 (79,[]) a w [(8,y),(2,.int .i64 X),(0,j),(1,.int .i64 d)] (OS (AN.sl AN.int) 29 y ao::L) λ_ _=>FI N z d X ao=some r) ?_ ?_))))))))))
 ·refine Ay (λn1=>λa w=>∃(M:Int) (Z:List (List Int)),IV B S a8 (79,[]) a w [(20,.int .i64 (↑(List.replicate (X:Int).toNat ([]:(List Int))).length:Int)),(8,y),(3,.int .i64 y7),(2,.int .i64 X),(0,j),(1,.int .i64 d),(21,.int .i64 M)] (OS (AN.sl AN.int) 29 y Z::L) λ_ _=>AI M∧FH N X y7 (FI N z d X) n1 M Z=some r) N ?_ ?_ ?_
  ·intro aa ww hf hw
   exact⟨0,(List.replicate (X:Int).toNat ([]:(List Int))),_,_,hf.sub (kp [20,8,3,2,0,1,21] O),hw,ax,(B8.refl S a8),(iq (n:=0) O),E⟩
  ·rintro aa ww ⟨_,_,_,_,_,_,_,_,_,E⟩
   rw[FH] at E;cases E
  rintro n1 aa ww ⟨M,Z,f9,ga,hf,hw,ay,cm,gb,E⟩
  refine Ad ?_ hf hw
  clear hf hw ww aa
  rw[FH] at E
  refine AA (AG (.inl O) (A0 O O O (AD (kp [22,20,8,3,2,0,1,21] O) (AA (AW O (λa9=>?_) (λa9=>?_))))))
  ·have E:=BU a9 E
   refine AT (AA (A6 (AA (AG (.inl O) (AB O O (AF O O (AD (kp [10,20,8,3,2,0,1,21] O) (Am (AJ 3 (AB O O (AB O O (AB O O (AE ?_)))))))))))))
   obtain⟨cn,E⟩:=Ly E
   refine Iq (r:=AN.int) (zx:=0) E4 O ⟨O,by unfold AI;omega⟩ O O cn O O ay λgc gd az eg=>AJ 1 ?_
   obtain⟨ge,co,E⟩:=bd E
   refine A5 az (mt mh) O O E8 co O λgf cp=>AE ?_
   obtain⟨eh,cq,E⟩:=bd E
   obtain⟨gg,cr,ei,ej⟩:=az.pubs .head
   refine Ef (r:=(AN.sl AN.int)) (l:=Z) (i:=M) (x:=eh) O O (MT ej) cp cq LG.id BY (λ_=>rfl) cr .head λgh ct ek=>AX (kp [20,8,3,2,0,1,21] O) (BJ (AG (.inl O) (Ap O O O (AB O O (AD (kp [21,20,8,3,2,0,1] O) (WF.nil (λaa ww hf hw=>?_)))))))
   have cu:=cm.trans (eg.trans (ei.trans ek))
   exact⟨(BD (M+1)),(upd Z M (List.replicate (y7:Int).toNat (0:Int))),_,_,hf.sub (kp [20,8,3,2,0,1,21] O),hw,ct,cu,(BG _),E⟩
  have E:=BV a9 E
  refine BB O (λaa ww hf hw=>?_)
  exact⟨Z,_,_,hf.sub (kp [8,2,0,1] O),hw,ay,cm,E⟩
 rintro aa ww ⟨ao,ba,bb,hf,hw,cv,cw,E⟩
 refine Ad ?_ hf hw
 clear hf hw ww aa
 rw[FI] at E
 refine AA (AG (.inl O) (AB O O ?_))
 have a0:=e6.trans (cj.trans (cl.trans cw))
 have el:=W.mono' a0
 refine Wx O O O el JF O λa1=>?_
 have cx:=cv.zs An 60 a1
 refine AF O O (AD (kp [9,8,2,0,1] O) (AA (AA (AG (.inl O) (AB O O ?_)))))
 have cy:=W.mono' a0
 refine Ag O cy JF O λgi=>AB O O (AD (kp [34,33,32,9,8,2,1] O) (Aj (λa w=>∃(bc:Value) (be:List Az) (bf:List (List Int)),IV B ba bb (79,[]) a w [(8,y),(9,bc)] (OS An 60 bc be::OS (AN.sl AN.int) 29 y bf::L) λ_ _=>GS N be bf=some r) ?_ ?_))
 ·refine Ay (λn3=>λa w=>∃(G:Value) (Q:List Az) (F:Int) (U:List (List Int)),IV B ba bb (79,[]) a w [(33,.int .i64 (↑z.length:Int)),(32,j),(8,y),(2,.int .i64 X),(1,.int .i64 d),(9,G),(34,.int .i64 F)] (OS An 60 G Q::OS (AN.sl AN.int) 29 y U::L) λ_ _=>AI F∧Eb N z d X (GS N) n3 Q F U=some r) N ?_ ?_ ?_
  ·intro aa ww hf hw
   exact⟨(.slice a1 0 0),([]:List Az),0,ao,_,_,hf.sub (kp [33,32,8,2,1,9,34] O),hw,cx,(B8.refl ba bb),(iq (n:=0) O),E⟩
  ·rintro aa ww ⟨_,_,_,_,_,_,_,_,_,_,_,E⟩
   rw[Eb] at E;cases E
  rintro n3 aa ww ⟨G,Q,F,U,A,em,hf,hw,ab,bg,gj,E⟩
  refine Ad ?_ hf hw
  clear hf hw ww aa
  rw[Eb] at E
  refine AA (AG (.inl O) (A0 O O O (AD (kp [35,33,32,8,2,1,9,34] O) (AA (AW O (λbh=>?_) (λbh=>?_))))))
  ·have E:=BU bh E
   refine AT (AA (Aj (λa w=>∃(ap:Value) (aq:List Az) (ar:List (List Int)),IV B A em (79,[]) a w [(33,.int .i64 (↑z.length:Int)),(32,j),(8,y),(2,.int .i64 X),(1,.int .i64 d),(34,.int .i64 F),(9,ap)] (OS An 60 ap aq::OS (AN.sl AN.int) 29 y ar::L) λ_ _=>H4 N F (Eb N z d X (GS N) n3) aq ar=some r) ?_ ?_))
   ·refine AA (Am (AJ 2 ?_))
    have en:=cy.mono' bg
    obtain⟨g,cz,E⟩:=bd E
    refine A8 O O en JF cz O λgk eo=>Bw A3 ab.1 O eo KP (λe=>by cases e) O λgl ep=>AE (Cg Pe O ab λH gm c0 bi=>?_)
    have eq:=ep.mono bi
    obtain⟨c1,rfl,er,bj,bk⟩:=An.ex eq
    refine Ge (vs:=[.int .i64 g.At,.int .i64 g.To,c1]) (cs':=[.int .i64 g.At,.int .i64 g.To,c1]) O O O (AH O (AH O (AH bk.one D2))) KP O c0 .head O O λV c au=>AX (kp [12,33,32,8,2,1,9,34] O) (AA (AG (.inl O) (AL O NP O (AS A3 c O mh O Ae O (AB O O (HW O O O (AB O O (AV 4 46 (.bool ((decide (g.At≤d))&&(decide (0≤g.To)))) ?_ ?_))))))))
    ·cases gn:(decide (g.At≤d))
     ·exact Aa O O
     exact AC O O O (AL O KX O (AC O O O (AS A3 c O mh O Ae O (AC O O O (Hr O O O (AO O O O (AU O)))))))
    refine AB O O (AV 5 52 (.bool (((decide (g.At≤d))&&(decide (0≤g.To)))&&(decide (g.To<X)))) ?_ ?_)
    ·cases gp:((decide (g.At≤d))&&(decide (0≤g.To)))
     ·exact Aa O O
     exact AC O O O (AL O KX O (AC O O O (AS A3 c O mh O Ae O (AC O O O (AB O O (AC O O O (A0 O O O (AO O O O (AU O)))))))))
    refine AD (kp [52,12,33,32,8,2,1,9,34] O) (AW O (λac=>?_) (λac=>?_))
    ·have E:=BU ac E
     obtain⟨ev,bl,E⟩:=bd E
     obtain⟨a2,bm,E⟩:=bd E
     obtain⟨ae,bn,E⟩:=bd E
     obtain⟨ew,bo,E⟩:=bd E
     refine Mk (m:=[(12,.pointer (some ⟨H,0,none⟩)),(33,.int .i64 (↑z.length:Int)),(32,j),(8,y),(2,.int .i64 X),(1,.int .i64 d),(9,G),(34,.int .i64 F)]) 12 (λi v hh=>match i with|0=>v=y|1=>v= .pointer (some ⟨H,1,none⟩)|2=>v= .int .i64 g.To∧AI g.To|3=>v=y|4=>v= .pointer (some ⟨H,1,none⟩)|5=>v= .int .i64 g.To∧AI g.To|6=>EP y (g.To.toNat*((AN.sl AN.int)).sz+0) v|7=>Sl A hh AN.int v a2|8=>v= .pointer (some ⟨H,2,none⟩)|9=>Sl A hh AN.int v g.Part|10=>Sl (SN A V hh) hh AN.int v ae|11=>EP y (g.To.toNat*((AN.sl AN.int)).sz+0) v|_=>False) [[],[],[(1,54)],[],[],[(4,57)],[(3,56),(5,58)],[(6,59)],[],[(8,61)],[(7,60),(9,62)],[(0,53),(2,55)]] [(10,63),(11,64)] mo (by kernel_rfl) [12,33,32,8,2,1,9,34] O (by kernel_rfl) (by kernel_rfl) (by kernel_rfl) (kp [12,33,32,8,2,1,9,34] O) (λi v h1 h2 o1 o2 hr=>?_) ?_ ?_
     ·match i,hr with
       |0,hr=>exact hr
       |1,hr=>exact hr
       |2,hr=>exact hr
       |3,hr=>exact hr
       |4,hr=>exact hr
       |5,hr=>exact hr
       |6,hr=>exact hr
       |7,hr=>exact Sl.mono' hr (o2.ext λb hb=>Nat.lt_of_lt_of_le (c.1 b hb) o1.siz)
       |8,hr=>exact hr
       |9,hr=>exact Sl.mono' hr (o2.ext λb hb=>Nat.lt_of_lt_of_le (c.1 b hb) o1.siz)
       |10,hr=>exact Sl.mono' hr (SN.mono c.1 o1 o2)
       |11,hr=>exact hr
       |_+12,hr=>exact hr.elim
     ·refine Ax.cons O ?_ ?_
      ·intro mq hh o
       have hsN:=o.st c
       exact AJ 1 (AB O O (AE (AK (BA.refl _) O)))
      refine Ax.cons O ?_ ?_
      ·intro mq hh o
       have hsN:=o.st c
       exact AJ 1 (AL O KX O (AE (AK (BA.refl _) O)))
      refine Ax.cons O ?_ ?_
      ·intro mq hh o
       intro ey c2
       have hsN:=o.st c
       cases c2
       exact AJ 1 (AS A3 hsN O mh O Ae O (AE (AK (BA.refl _) ⟨O,bj⟩)))
      refine Ax.cons O ?_ ?_
      ·intro mq hh o
       have hsN:=o.st c
       exact AJ 1 (AB O O (AE (AK (BA.refl _) O)))
      refine Ax.cons O ?_ ?_
      ·intro mq hh o
       have hsN:=o.st c
       exact AJ 1 (AL O KX O (AE (AK (BA.refl _) O)))
      refine Ax.cons O ?_ ?_
      ·intro mq hh o
       intro ez c3
       have hsN:=o.st c
       cases c3
       exact AJ 1 (AS A3 hsN O mh O Ae O (AE (AK (BA.refl _) ⟨O,bj⟩)))
      refine Ax.cons O ?_ ?_
      ·intro mq hh o
       intro e0 c4 e1 c5
       have hsN:=o.st c
       cases c4
       obtain⟨rfl,e2⟩:=c5
       exact AJ 1 (A5 hsN (mt (mt mh)) O O E8 bl O λe3 bp=>AE (AK (BA.refl _) bp))
      refine Ax.cons O ?_ ?_
      ·intro mq hh o
       intro e4 c6
       have hsN:=o.st c
       refine AJ 1 ?_
       have c7:=hsN.epAt (mt (mt mh)) bm El.id c6
       exact Ah A3 (λ_ x=>x) O c7 BY O λe5 c8=>AE (AK (BA.refl _) c8)
      refine Ax.cons O ?_ ?_
      ·intro mq hh o
       have hsN:=o.st c
       exact AJ 1 (AL O KW O (AE (AK (BA.refl _) O)))
      refine Ax.cons O ?_ ?_
      ·intro mq hh o
       intro e7 c9
       have hsN:=o.st c
       cases c9
       refine AJ 1 (AS A3 hsN O mh O BY O (AE ?_))
       have da:=bk.mono' (au.trans (o.ext c.1))
       exact AK (BA.refl _) da
      refine Ax.cons O ?_ ?_
      ·intro mq hh o
       intro db I dc J
       have hsN:=SN.st c o
       have I:=Sl.mono' (S':=(SN A V hh)) I ⟨λb hb=> .inl hb,λ_ _=>rfl,Nat.le_refl _⟩
       have I:Sl _ _ AN.int db a2:=I
       have J:=Sl.mono' (S':=(SN A V hh)) J ⟨λb hb=> .inl hb,λ_ _=>rfl,Nat.le_refl _⟩
       have J:Sl _ _ AN.int dc g.Part:=J
       have hsF:=hsN.fz
       refine Bb O O O Vl O hsF (K5 (St.all _) (I.mono (λb hb=>hsF.1 b hb) (λ_ _=>rfl)) (J.mono (λb hb=>hsF.1 b hb) (λ_ _=>rfl)) bn) λe8 e9 fa es dd de p=>?_
       have bq:=p
       have af:=hsF.join de bq ⟨OS.flat (λ{_ _ _ _ _ _} k=>k),trivial⟩
       simp only[List.cons_append,List.nil_append] at af
       obtain⟨fb,br,df,dg⟩:=af.pubs .head
       have ag:=Fz.done o (dd.trans df) br
       exact AK ag.1 (Sl.mono' dg ag.2)
      refine Ax.cons O ?_ ?_
      ·intro mq hh o
       intro fc dh fd di
       have hsN:=o.st c
       cases dh
       obtain⟨rfl,fe⟩:=di
       exact AJ 1 (A5 hsN (mt (mt mh)) O O E8 bo O λff bs=>AE (AK (BA.refl _) bs))
      exact trivial
     intro fg a3 dj ah fh dk
     have bt:=SN.st c a3
     have ah:Sl _ _ AN.int dj ae:=ah
     obtain⟨dl,bu,E⟩:=bd E
     refine Ef (r:=(AN.sl AN.int)) (l:=U) (i:=g.To) (x:=dl) O O (MT ah) dk bu LG.id BY (λ_=>rfl) bt (.tail (.tail .head)) λfi bv dm=>AX (kp [33,32,8,2,1,9,34] O) (WF.nil (λaa ww hf hw=>?_))
     have bw:=bv.sel [1,1] 1 O
     have bx:=bi.trans (au.trans ((SN.ext c.1 a3).trans dm))
     exact⟨G,Q,(upd U g.To ae),_,_,hf.sub (kp [33,32,8,2,1,34,9] O),hw,bw,bx,E⟩
    have E:=BV ac E
    obtain⟨s,bz,E⟩:=bd E
    refine Mk (m:=[(12,.pointer (some ⟨H,0,none⟩)),(33,.int .i64 (↑z.length:Int)),(32,j),(8,y),(2,.int .i64 X),(1,.int .i64 d),(9,G),(34,.int .i64 F)]) 10 (λi v hh=>match i with|0=>v=G|1=>v= .pointer (some ⟨H,0,none⟩)|2=>v= .int .i64 g.At∧AI g.At|3=>v= .pointer (some ⟨H,1,none⟩)|4=>v= .int .i64 g.To∧AI g.To|5=>v= .pointer (some ⟨H,2,none⟩)|6=>Sl A hh AN.int v g.Part|7=>Sl (SN A V hh) hh AN.int v s|8=>Rd (SN A V hh) hh An v ({ g with Part:=s}:Az)|9=>Sl (SN A V hh) hh An v ([({ g with Part:=s}:Az)]:List Az)∧∃ad,v= .slice (some ad) 1 1|_=>False) [[],[],[(1,66)],[],[(3,68)],[],[(5,70)],[(6,71)],[(2,67),(4,69),(7,72)],[(8,73)]] [(0,65),(9,74)] mo (by kernel_rfl) [12,33,32,8,2,1,9,34] O (by kernel_rfl) (by kernel_rfl) (by kernel_rfl) (kp [12,33,32,8,2,1,9,34] O) (λi v h1 h2 o1 o2 hr=>?_) ?_ ?_
    ·match i,hr with
      |0,hr=>exact hr
      |1,hr=>exact hr
      |2,hr=>exact hr
      |3,hr=>exact hr
      |4,hr=>exact hr
      |5,hr=>exact hr
      |6,hr=>exact Sl.mono' hr (o2.ext λb hb=>Nat.lt_of_lt_of_le (c.1 b hb) o1.siz)
      |7,hr=>exact Sl.mono' hr (SN.mono c.1 o1 o2)
      |8,hr=>exact Rd.mono hr (SN.mono c.1 o1 o2)
      |9,hr=>exact⟨Sl.mono' hr.1 (SN.mono c.1 o1 o2),hr.2⟩
      |_+10,hr=>exact hr.elim
    ·refine Ax.cons O ?_ ?_
     ·intro mq hh o
      have hsN:=o.st c
      exact AJ 1 (AB O O (AE (AK (BA.refl _) O)))
     refine Ax.cons O ?_ ?_
     ·intro mq hh o
      have hsN:=o.st c
      exact AJ 1 (AL O NP O (AE (AK (BA.refl _) O)))
     refine Ax.cons O ?_ ?_
     ·intro mq hh o
      intro fj dn
      have hsN:=o.st c
      cases dn
      exact AJ 1 (AS A3 hsN O mh O Ae O (AE (AK (BA.refl _) ⟨O,er⟩)))
     refine Ax.cons O ?_ ?_
     ·intro mq hh o
      have hsN:=o.st c
      exact AJ 1 (AL O KX O (AE (AK (BA.refl _) O)))
     refine Ax.cons O ?_ ?_
     ·intro mq hh o
      intro fk dp
      have hsN:=o.st c
      cases dp
      exact AJ 1 (AS A3 hsN O mh O Ae O (AE (AK (BA.refl _) ⟨O,bj⟩)))
     refine Ax.cons O ?_ ?_
     ·intro mq hh o
      have hsN:=o.st c
      exact AJ 1 (AL O KW O (AE (AK (BA.refl _) O)))
     refine Ax.cons O ?_ ?_
     ·intro mq hh o
      intro fl dq
      have hsN:=o.st c
      cases dq
      refine AJ 1 (AS A3 hsN O mh O BY O (AE ?_))
      have dr:=bk.mono' (au.trans (o.ext c.1))
      exact AK (BA.refl _) dr
     refine Ax.cons O ?_ ?_
     ·intro mq hh o
      intro ds K
      have hsN:=SN.st c o
      have K:=Sl.mono' (S':=(SN A V hh)) K ⟨λb hb=> .inl hb,λ_ _=>rfl,Nat.le_refl _⟩
      have K:Sl _ _ AN.int ds g.Part:=K
      have hsF:=hsN.fz
      refine Bb O O O PB O hsF (DB (St.all _) (K.mono (λb hb=>hsF.1 b hb) (λ_ _=>rfl)) bz) λfm fn fo et dt du p=>?_
      have b0:=p
      have ai:=hsF.join du b0 ⟨OS.flat (λ{_ _ _ _ _ _} k=>k),trivial⟩
      simp only[List.cons_append,List.nil_append] at ai
      obtain⟨fp,b1,dv,dw⟩:=ai.pubs .head
      have aj:=Fz.done o (dt.trans dv) b1
      exact AK aj.1 (Sl.mono' dw aj.2)
     refine Ax.cons O ?_ ?_
     ·intro mq hh o
      intro fq dx fr dy dz Y
      have hsN:=SN.st c o
      obtain⟨rfl,d0⟩:=dx
      obtain⟨rfl,d1⟩:=dy
      have Y:Sl _ _ AN.int dz s:=Y
      refine AJ 1 ?_
      obtain⟨b2,av,rfl,fs⟩:=(Y).len
      exact HX (cs:=[.int .i64 g.At,.int .i64 g.To,(.slice b2 s.length av)]) XM O O O (AE (AK (BA.refl _) (An.mk (x:=({ g with Part:=s}:Az)) d0 d1 Y)))
     refine Ax.cons O ?_ ?_
     ·intro mq hh o
      intro d2 ak
      have hsN:=SN.st c o
      have ak:Rd _ _ An d2 ({ g with Part:=s}:Az):=ak
      have hsF:=hsN.fz
      obtain⟨ft,rfl,d3,d4,a4⟩:=An.ex ak
      obtain⟨b3,aw,rfl,fu⟩:=(a4).len
      refine Dw (cs:=[.int .i64 (({ g with Part:=s}:Az).At),.int .i64 (({ g with Part:=s}:Az).To),(.slice b3 (({ g with Part:=s}:Az).Part).length aw)]) Px O O O O O O O hsF λfv fw b4 a5=>?_
      have d5:=a4.mono' a5
      have b5:=b4.bxos (r:=An) (l:=([({ g with Part:=s}:Az)]:List Az)) .head ⟨_,_,O,⟨_,O,d3,d4,d5⟩,O⟩ (by simp [maxLen])
      obtain⟨fx,b6,d6,d7⟩:=b5.pubs .head
      have am:=Fz.done o (a5.trans d6) b6
      exact AK am.1 ⟨Sl.mono' d7 am.2,_,O⟩
     exact trivial
    intro fy a6 f0 d8 f1 an
    have b7:=SN.st c a6
    cases d8
    obtain⟨an,eu,rfl⟩:=an
    obtain⟨b8,E⟩:=Ly E
    refine I8 (r:=An) (l:=Q) (xs:=([({ g with Part:=s}:Az)]:List Az)) O O Px O (Sl.src an) O b8 O b7 (λ_=>(.tail .head)) λd9 f2 b9 ea=>AJ 1 (AF O O (AE (AX (kp [9,33,32,8,2,1,34] O) (WF.nil (λaa ww hf hw=>?_)))))
    have ca:=b9.sel [1,1] 1 O
    have cb:=bi.trans (au.trans ((SN.ext c.1 a6).trans ea))
    exact⟨d9,(Q++([({ g with Part:=s}:Az)]:List Az)),U,_,_,hf.sub (kp [33,32,8,2,1,34,9] O),hw,ca,cb,E⟩
   rintro aa ww ⟨ap,aq,ar,f3,f4,hf,hw,cc,eb,E⟩
   refine Ad ?_ hf hw
   clear hf hw ww aa
   rw[H4] at E
   refine AG (.inl O) (Ap O O O (AB O O (AD (kp [34,33,32,8,2,1,9] O) (WF.nil (λaa ww hf hw=>?_)))))
   exact⟨ap,aq,(BD (F+1)),ar,_,_,hf.sub (kp [33,32,8,2,1,9,34] O),hw,cc,(bg.trans eb),(BG _),E⟩
  have E:=BV bh E
  refine BB O (λaa ww hf hw=>?_)
  exact⟨G,Q,U,_,_,hf.sub (kp [8,9] O),hw,ab,bg,E⟩
 rintro aa ww ⟨bc,be,bf,f5,f6,hf,hw,cd,ec,E⟩
 refine Ad ?_ hf hw
 clear hf hw ww aa
 rw[GS] at E
 refine AA (AG (.inl O) (AB O O (AB O O (AF O O (AF O O (AD (kp [9,8] O) (Ab (λaa ww hf hw=>?_))))))))
 have ce:=cd.sel [1,0] 0 O
 cases E
 have cf:=e6.trans (cj.trans (cl.trans (cw.trans ec)))
 exact Jn hf O hw (Hn (qQ hf (v:=_) O) (Hn (qQ hf (v:=_) O) Jm)) O cf ⟨_,_,O,ce⟩
end Go.Proofs.YtblcgjadhemlbaaGreat
