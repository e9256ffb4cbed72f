import Derived.Test.YtibidnaedddfdaaGreatCWalk11
namespace Go.Proofs.YtibidnaedddfdaaGreat
open Go.RowKit
set_option linter.unusedVariables false
set_option linter.unusedSimpArgs false
set_option maxRecDepth 10000
set_option maxHeartbeats 2000000
variable {N:Nat}{S:Nat→Prop}{L:List HP}{h:AX}
theorem Ij (hs:St S L h) {H:Value}{au:AJ}(ao:Rd S h BV H au) {u:Int}(k:AB u) {I:Value}{av:BT}(ap:Rd S h DI I av) {m:Value}{t:(List Be)}(d:Sl S h El m t) {y:Value}{ac:(List BJ)}(j:Sl S h Dt y ac) {c:Int}(n:AB c) {r:Bool}(E:D5 N au u av t ac c=some r):
 Bf Tryz.prog 4 #[H,.int .i64 u,I,m,y,.int .i64 c] S h (λv S' h'=>v= .bool r∧St S' (L) h'):=by
 refine Ab (l:=[H,.int .i64 u,I,m,y,.int .i64 c]) 151 Tryz.func4 O Tryz.ntmps4 O λB=>?_
 rw[D5] at E
 refine WF.seq (WF.rl (LF.boxp O ao (λe=>by cases e) O hs λq1 S2 h3 cj e5 k6=>?_))
 have k7:=ap.mono e5
 refine LF.boxp O k7 (λe=>by cases e) O cj λq8 S9 du a8 af a9=>LF.q 1 (QF.as_ O O (AG (LF.nil (kp [8,6,1,3,4,5] O) (WF.seq (WF.rc (.inl O) a8 ?_)))))
 obtain⟨Q,ba,E⟩:=bd E
 refine Aa O O O Zi O (λh' o=>Jr (St.all h') ba) (QF.as_ O O (Ak (kp [13,8,6,1,3,4,5] O) λdv U V=>WF.seq (WF.rc (.inl O) U ?_)))
 have bb:=k6.mono (af.trans V)
 refine QF.ld Ai U.1 O bb F7 (λe=>by cases e) O λdw ck=>QF.mv O O (QF.mv O O ?_)
 have ah:=e5.trans (af.trans V)
 have cl:=d.mono' ah
 have cm:=j.mono' ah
 obtain⟨J,bc,E⟩:=bd E
 refine Aa O O O Zh O (λh' o=>Kt (St.all h') (ck.mono (o.all U.1)) (cl.mono' (o.all U.1)) (cm.mono' (o.all U.1)) bc) (QF.as_ O O (Ak (kp [14,13,8,6,1,3,4,5] O) λdx ad W=>WF.seq (WF.rc (.inl O) ad ?_)))
 have aq:=bb.mono W
 refine QF.ld Ai ad.1 O aq F7 (λe=>by cases e) O λdy cn=>QF.mv O O ?_
 have co:=d.mono' (ah.trans W)
 obtain⟨X,be,E⟩:=bd E
 refine Aa O O O Zg O (λh' o=>KJ (St.all h') (cn.mono (o.all ad.1)) (co.mono' (o.all ad.1)) be) (QF.as_ O O (Ak (kp [15,14,13,8,6,1,3,4,5] O) λdz F K=>WF.seq (WF.seq (WF.rc (.inl O) F (QF.mv O O (QF.not O O (QF.mv O O (QF.cutv 3 35 (.bool ((!J)||(!X))) ?_ ?_))))))))
 ·
  cases d0:(!J)
  ·exact QF.gy O O O (QF.mv O O (QF.gy O O O (QF.not O O (QF.pick O O O (AH O)))))
  ·exact AK O O
 refine QF.mv O O (QF.cutv 3 39 (.bool (((!J)||(!X))||(decide (c<0)))) ?_ ?_)
 ·
  cases d1:((!J)||(!X))
  ·exact QF.gy O O O (QF.mv O O (QF.gy O O O (QF.lss O O O (QF.pick O O O (AH O)))))
  ·exact AK O O
 refine QF.mv O O (QF.cutv 3 43 (.bool ((((!J)||(!X))||(decide (c<0)))||(decide (8<c)))) ?_ ?_)
 ·
  cases d2:(((!J)||(!X))||(decide (c<0)))
  ·exact QF.gy O O O (QF.mv O O (QF.gy O O O (QF.gtr O O O (QF.pick O O O (AH O)))))
  ·exact AK O O
 refine QF.mv O O (QF.cutv 4 48 (.bool (((((!J)||(!X))||(decide (c<0)))||(decide (8<c)))||(decide ((↑t.length:Int)<2)))) ?_ ?_)
 ·
  cases d3:((((!J)||(!X))||(decide (c<0)))||(decide (8<c)))
  ·
   refine QF.gy O O O (QF.mv O O (QF.gy O O O ?_))
   have bf:=e5.trans (af.trans (V.trans (W.trans K)))
   have cp:=d.mono' bf
   exact QF.len O cp LZ O λd4=>QF.gy O O O (QF.lss O O O (QF.pick O O O (AH O)))
  ·exact AK O O
 refine QF.mv O O ?_
 obtain⟨bg,z,E⟩:=bd E
 refine QF.cutv 4 53 (.bool bg) ?_ ?_
 ·
  cases bh:(((((!J)||(!X))||(decide (c<0)))||(decide (8<c)))||(decide ((↑t.length:Int)<2)))
  ·
   have z:=A3 bh z
   refine QF.gy O O O ?_
   have cq:=aq.mono K
   refine QF.ld Ai F.1 O cq F7 (λe=>by cases e) O λd5 cr=>QF.gy O O O ?_
   obtain⟨d6,bi,z⟩:=bd z
   refine Aa O O O Zl O (λh' o=>Ms (St.all h') (cr.mono (o.all F.1)) bi) (QF.gy O O O (QF.not O O (QF.pick O O O ?_)))
   cases z
   exact AH O
  ·
   have z:=A0 bh z
   cases z
   exact AK O O
 refine QF.mv O O ?_
 obtain⟨cs,A,E⟩:=bd E
 refine QF.cutv 5 59 (.bool cs) ?_ ?_
 ·
  cases bj:bg
  ·
   have A:=A3 bj A
   refine QF.gy O O O ?_
   have ct:=aq.mono K
   refine QF.ld Ai F.1 O ct F7 (λe=>by cases e) O λd7 cu=>QF.gy O O O ?_
   have bk:=V.trans (W.trans K)
   have cv:=a9.mono bk
   refine QF.ld Ai F.1 O cv H6 (λe=>by cases e) O λd8 cw=>QF.gy O O O ?_
   obtain⟨d9,bl,A⟩:=bd A
   refine Aa O O O Zk O (λh' o=>NT (St.all h') (cu.mono (o.all F.1)) (cw.mono (o.all F.1)) bl) (QF.gy O O O (QF.not O O (QF.pick O O O ?_)))
   cases A
   exact AH O
  ·
   have A:=A0 bj A
   cases A
   exact AK O O
 refine Ak (kp [59,13,8,6,1,3,4,5] O) λea ai aj=>WF.if_ O (λay=>?_) (λay=>?_)
 ·
  have E:=A0 ay E
  refine WF.seq (WF.rp (.inl O) (QF.mv O O (QF.as_ O O (AA (kp [12] O) (WF.ret (λaa ww hf hw=>?_))))))
  cases E
  have bm:=e5.trans (af.trans (V.trans (W.trans (K.trans aj))))
  exact DD hf hw O O bm ⟨O,ai⟩
 ·
  have E:=A3 ay E
  refine WF.skip (WF.seq (WF.rl (LF.q 3 ?_)))
  have bn:=aq.mono (K.trans aj)
  refine QF.fa O bn AJ.f_Links FP O λeb cx=>QF.ldl Af ai.1 O cx Ho O λec cy=>QF.len O cy GO O λed=>AG ?_
  obtain⟨bo,E⟩:=Q0 E
  refine LF.mke (r:=AV.bool) (zx:=false) ZE O O O O bo O O ai λee ef C ar=>LF.q 1 (QF.as_ O O (AG (LF.nil (kp [16,13,8,6,1,3,4,5] O) (WF.seq (WF.rc (.inl O) C ?_)))))
  have bp:=bn.mono ar
  refine QF.ld Ai C.1 O bp F7 (λe=>by cases e) O λeg cz=>QF.mv O O ?_
  have bq:=V.trans (W.trans (K.trans (aj.trans ar)))
  have br:=a9.mono bq
  refine QF.ld Ai C.1 O br H6 (λe=>by cases e) O λeh c0=>QF.mv O O (QF.mv O O (QF.mv O O (QF.mv O O ?_)))
  have Y:=e5.trans (af.trans (V.trans (W.trans (K.trans (aj.trans ar)))))
  have c1:=d.mono' Y
  have c2:=j.mono' Y
  obtain⟨i,bt,E⟩:=bd E
  refine Ao O O O R3 O (λh' o=>G1 (St.all h') (cz.mono (o.all C.1)) k (c0.mono (o.all C.1)) (c1.mono' (o.all C.1)) (c2.mono' (o.all C.1)) ((C.oslAll mh).mono (λb hb=>Nat.lt_of_lt_of_le hb o.siz) (λb hb=>o.same b hb)) n bt) λc3=>?_
  have ei:=c3
  refine QF.fld O M2 O O (QF.as_ O O (Ak (kp [17,16,13,8,6,1,3,4,5] O) λej D ag=>WF.seq (WF.rc (.inr ⟨mo,by kernel_rfl⟩) D ?_)))
  have bu:=bp.mono ag
  refine QF.ld Ai D.1 O bu F7 (λe=>by cases e) O λek c4=>QF.mv O O ?_
  have bv:=br.mono ag
  refine QF.ld Ai D.1 O bv H6 (λe=>by cases e) O λc5 bw=>QF.mv O O ?_
  have bx:=d.mono' (Y.trans ag)
  obtain⟨c6,az,E⟩:=bd E
  refine V8 O O bx LZ az O λc7 bz=>QF.mv O O (QF.mv O O (QF.mv O O ?_))
  have b0:=j.mono' (Y.trans ag)
  obtain⟨G,a0,E⟩:=bd E
  refine Ao O O O R3 O (λh' o=>G1 (St.all h') (c4.mono (o.all D.1)) k (bw.mono (o.all D.1)) (bz.mono' (o.all D.1)) (b0.mono' (o.all D.1)) ((D.oslAll mh).mono (λb hb=>Nat.lt_of_lt_of_le hb o.siz) (λb hb=>o.same b hb)) n a0) λb1=>?_
  have b2:=b1
  refine QF.fld O M2 O O (QF.as_ O O (Ak (kp [18,17,16,13,8,6,1,3,4,5] O) λc8 p ae=>WF.seq (WF.rc (.inr ⟨mo,by kernel_rfl⟩) p ?_)))
  have aw:=bu.mono ae
  refine QF.ld Ai p.1 O aw F7 (λe=>by cases e) O λc9 b3=>QF.mv O O ?_
  have ax:=bv.mono ae
  refine QF.ld Ai p.1 O ax H6 (λe=>by cases e) O λda b4=>QF.mv O O ?_
  have M:=Y.trans (ag.trans ae)
  have b5:=d.mono' M
  obtain⟨db,a1,E⟩:=bd E
  refine V9 O O b5 LZ a1 O λdc b6=>QF.mv O O (QF.mv O O (QF.mv O O ?_))
  have b7:=j.mono' M
  obtain⟨Z,a2,E⟩:=bd E
  refine Ao O O O R3 O (λh' o=>G1 (St.all h') (b3.mono (o.all p.1)) k (b4.mono (o.all p.1)) (b6.mono' (o.all p.1)) (b7.mono' (o.all p.1)) ((p.oslAll mh).mono (λb hb=>Nat.lt_of_lt_of_le hb o.siz) (λb hb=>o.same b hb)) n a2) λb8=>?_
  have b9:=b8
  refine QF.fld O M2 O O (QF.as_ O O (Ak (kp [19,18,17,16,13,8,6,1,3,4,5] O) λdd s ab=>WF.seq (WF.rc (.inl O) s ?_)))
  have ca:=aw.mono ab
  refine QF.ld Ai s.1 O ca F7 (λe=>by cases e) O λde cb=>QF.mv O O ?_
  have cc:=ax.mono ab
  refine QF.ld Ai s.1 O cc H6 (λe=>by cases e) O λdf cd=>QF.mv O O (QF.mv O O (QF.mv O O (QF.mv O O (QF.addw O O O ?_))))
  have ce:=d.mono' (M.trans ab)
  have cf:=j.mono' (M.trans ab)
  obtain⟨g,a3,E⟩:=bd E
  refine Ao O O O R3 O (λh' o=>G1 (St.all h') (cb.mono (o.all s.1)) k (cd.mono (o.all s.1)) (ce.mono' (o.all s.1)) (cf.mono' (o.all s.1)) ((s.oslAll mh).mono (λb hb=>Nat.lt_of_lt_of_le hb o.siz) (λb hb=>o.same b hb)) (BA _) a3) λcg=>?_
  have dg:=cg
  refine QF.fld O M2 O O (QF.as_ O O (Ak (kp [20,19,18,17,13,5] O) λak am ch=>WF.seq (WF.rp (.inl O) (QF.mv O O (QF.as_ O O (AA (kp [21,20,19,18,17,13,5] O) (WF.seq (WF.seq (WF.rp (.inl O) (QF.mv O O (QF.geq O O O (QF.mv O O ?_))))))))))))
  refine QF.cutv 8 115 (.bool ((decide (0≤Z.Crest))&&((decide (G.Crest<0))||(decide (Z.Crest<G.Crest))))) ?_ ?_
  ·
   cases dh:(decide (0≤Z.Crest))
   ·exact AK O O
   ·
    refine QF.gy O O O (QF.mv O O (QF.gy O O O (QF.lss O O O (QF.gy O O O (QF.mv O O (QF.cutv 4 114 (.bool ((decide (G.Crest<0))||(decide (Z.Crest<G.Crest)))) ?_ ?_))))))
    ·
     cases di:(decide (G.Crest<0))
     ·exact QF.gy O O O (QF.mv O O (QF.gy O O O (QF.mv O O (QF.gy O O O (QF.lss O O O (QF.gy O O O (QF.pick O O O (AH O))))))))
     ·exact AK O O
    exact QF.pick O O O (AH O)
  refine AA (kp [115,21,20,19,17,13,5] O) (WF.cut (λa w=>∃(x:Int),IV B S9 ak (151,[]) a w [(20,.int .i64 g.Crest),(17,.int .i64 i.Crest),(13,.bool Q),(5,.int .i64 c),(21,.int .i64 x)] (L) λ_ _=>AB x∧Cb N c Q i g x=some r) ?_ ?_)
  ·
   refine WF.if_ O (λan=>?_) (λan=>?_)
   ·
    have E:=A0 an E
    refine WF.rp (.inl O) (QF.mv O O (QF.as_ O O (AA (kp [21,20,17,13,5] O) (WF.nil (λaa ww hf hw=>?_)))))
    have a4:=am.drop .head
    exact⟨Z.Crest,_,_,hf.sub (kp [20,17,13,5,21] O),hw,a4,(Bc.refl S9 ak),b9,E⟩
   ·
    have E:=A3 an E
    refine WF.skip (WF.nil (λaa ww hf hw=>?_))
    have a5:=am.drop .head
    exact⟨G.Crest,_,_,hf.sub (kp [20,17,13,5,21] O),hw,a5,(Bc.refl S9 ak),b2,E⟩
  ·
   rintro aa ww ⟨x,dj,dk,hf,hw,a6,ci,dl,E⟩
   refine WF.run ?_ hf hw
   clear hf hw ww aa
   rw[Cb] at E
   refine WF.seq (WF.rp (.inl O) (QF.mv O O (QF.mv O O (QF.cutv 4 122 (.bool (Q&&(decide (i.Crest=x)))) ?_ ?_))))
   ·
    cases dm:Q
    ·exact AK O O
    ·exact QF.gy O O O (QF.mv O O (QF.gy O O O (QF.mv O O (QF.gy O O O (QF.eql O O O (QF.pick O O O (AH O)))))))
   refine QF.mv O O (QF.cutv 21 144 (.bool ((Q&&(decide (i.Crest=x)))&&(((decide (i.Crest<0))&&((decide (g.Crest<0))||(decide (g.Crest=c))))||((decide (0≤i.Crest))&&(decide (g.Crest=i.Crest)))))) ?_ ?_)
   ·
    cases dn:(Q&&(decide (i.Crest=x)))
    ·exact AK O O
    ·
     refine QF.gy O O O (QF.mv O O (QF.gy O O O (QF.lss O O O (QF.gy O O O (QF.mv O O (QF.cutv 8 134 (.bool ((decide (i.Crest<0))&&((decide (g.Crest<0))||(decide (g.Crest=c))))) ?_ ?_))))))
     ·
      cases dp:(decide (i.Crest<0))
      ·exact AK O O
      ·
       refine QF.gy O O O (QF.mv O O (QF.gy O O O (QF.lss O O O (QF.gy O O O (QF.mv O O (QF.cutv 4 133 (.bool ((decide (g.Crest<0))||(decide (g.Crest=c)))) ?_ ?_))))))
       ·
        cases dq:(decide (g.Crest<0))
        ·exact QF.gy O O O (QF.mv O O (QF.gy O O O (QF.mv O O (QF.gy O O O (QF.eql O O O (QF.gy O O O (QF.pick O O O (AH O))))))))
        ·exact AK O O
       exact QF.gy O O O (QF.pick O O O (AH O))
     refine QF.gy O O O (QF.mv O O (QF.cutv 8 143 (.bool (((decide (i.Crest<0))&&((decide (g.Crest<0))||(decide (g.Crest=c))))||((decide (0≤i.Crest))&&(decide (g.Crest=i.Crest))))) ?_ ?_))
     ·
      cases dr:((decide (i.Crest<0))&&((decide (g.Crest<0))||(decide (g.Crest=c))))
      ·
       refine QF.gy O O O (QF.mv O O (QF.gy O O O (QF.geq O O O (QF.gy O O O (QF.mv O O (QF.cutv 4 142 (.bool ((decide (0≤i.Crest))&&(decide (g.Crest=i.Crest)))) ?_ ?_))))))
       ·
        cases ds:(decide (0≤i.Crest))
        ·exact AK O O
        ·exact QF.gy O O O (QF.mv O O (QF.gy O O O (QF.mv O O (QF.gy O O O (QF.eql O O O (QF.gy O O O (QF.pick O O O (AH O))))))))
       exact QF.gy O O O (QF.pick O O O (AH O))
      ·exact AK O O
     exact QF.pick O O O (AH O)
   refine QF.mv O O (QF.cutv 5 150 (.bool (((Q&&(decide (i.Crest=x)))&&(((decide (i.Crest<0))&&((decide (g.Crest<0))||(decide (g.Crest=c))))||((decide (0≤i.Crest))&&(decide (g.Crest=i.Crest)))))&&(decide (i.Crest<(max c 1))))) ?_ ?_)
   ·
    cases dt:((Q&&(decide (i.Crest=x)))&&(((decide (i.Crest<0))&&((decide (g.Crest<0))||(decide (g.Crest=c))))||((decide (0≤i.Crest))&&(decide (g.Crest=i.Crest)))))
    ·exact AK O O
    ·exact QF.gy O O O (QF.mv O O (QF.gy O O O (QF.mv O O (QF.gy O O O (QF.max O O O (QF.gy O O O (QF.lss O O O (QF.pick O O O (AH O)))))))))
   refine QF.as_ O O (AA (kp [12] O) (WF.ret (λaa ww hf hw=>?_)))
   cases E
   have a7:=e5.trans (af.trans (V.trans (W.trans (K.trans (aj.trans (ar.trans (ag.trans (ae.trans (ab.trans (ch.trans ci))))))))))
   exact DD hf hw O O a7 ⟨O,a6⟩
end Go.Proofs.YtibidnaedddfdaaGreat
