import Derived.Test.YtibidnaedddfdaaGreatAWalk10
namespace Go.Proofs.YtibidnaedddfdaaGreat
open Go.RowKit
set_option linter.unusedVariables false
set_option linter.unusedSimpArgs false
set_option maxRecDepth 10000
set_option maxHeartbeats 2000000
variable {N:Nat}{S:Nat→Prop}{L:List HP}{h:Ad}
theorem KR (hs:St S L h) {U:Value}{j:AJ}(a9:Rd S h A3 U j) {r:Bool}(E:Ep N j=some r):
 BP Tryz.prog 41 #[U] S h (λv S' h'=>v= .bool r∧St S' (L) h'):=by
 refine Ac (l:=[U]) 128 Tryz.func41 O Tryz.ntmps41 O λB=>?_
 rw[Ep] at E
 refine WF.seq (WF.rl (LF.boxp O a9 (λe=>by cases e) O hs λq1 S2 h3 d8 e5 k6=>LF.q 1 (QF.as_ O O (AE (LF.nil (kp [1] O) (WF.seq (WF.rl (LF.q 3 (QF.fa O k6 Ah Bs O λq7 k8=>QF.ldl Aa d8.1 O k8 EY O λv9 gl=>QF.len O gl Dk O λkg=>AE ?_)))))))))
 obtain⟨d9,E⟩:=O4 E
 refine LF.mke (r:=AW.int) (zx:=0) MM O ⟨O,by unfold AB;omega⟩ O O d9 O O d8 λk b0 bf b1=>LF.q 1 (QF.as_ O O (AE (LF.nil (kp [3,1] O) (WF.seq (WF.seq (WF.rp (.inl O) ?_))))))
 have ea:=k6.mono b1
 refine QF.fa O ea Ah Bs O λkh gm=>QF.ldl Aa bf.1 O gm EY O λgp eb=>QF.len O eb Dk O λki=>QF.mv O O (AA (kp [17,16,15,3,1] O) (WF.blockJ (λa w=>∃(ba:List Int),IV B S2 b0 (128,[]) a w [(3,k),(1,q1)] (OS AW.int 3 k ba::L) λ_ _=>Bp N j ba=some r) ?_ ?_))
 ·
  refine WF.loopF (λn1=>λa w=>∃(W:Int) (ag:List Int),IV B S2 b0 (128,[]) a w [(16,.int .i64 (↑j.Places.length:Int)),(15,gp),(3,k),(1,q1),(17,.int .i64 W)] (OS AW.int 3 k ag::L) λ_ _=>AB W∧Bn N j (Bp N j) n1 W ag=some r) N ?_ ?_ ?_
  ·
   intro aa ww hf hw
   exact⟨0,(List.replicate ((↑j.Places.length:Int):Int).toNat 0),_,_,hf.sub (kp [16,15,3,1,17] O),hw,bf,(BO.refl S2 b0),(iq (n:=0) O),E⟩
  ·
   rintro aa ww ⟨_,_,_,_,_,_,_,_,_,E⟩
   rw[Bn] at E;cases E
  ·
   rintro n1 aa ww ⟨W,ag,kj,kk,hf,hw,ai,b2,kl,E⟩
   refine WF.run ?_ hf hw
   clear hf hw ww aa
   rw[Bn] at E
   refine WF.seq (WF.rp (.inl O) (QF.lss O O O (AA (kp [18,16,15,3,1,17] O) (WF.seq (WF.if_ O (λb3=>?_) (λb3=>?_))))))
   ·
    have E:=Av b3 E
    refine WF.skip (WF.seq (WF.block (WF.seq (WF.rl (LF.q 3 (QF.mv O O ?_))))))
    have gq:=eb.mono' b2
    obtain⟨u,ec,E⟩:=bd E
    refine QF.ixe O O gq Dk ec O λkm gr=>QF.ld Aa ai.1 O gr HV (λe=>by cases e) O λkn gs=>AE (LF.al Lw O ai λko kq ed ee=>LF.q 1 (QF.as_ O O (AE ?_)))
    have gu:=gs.mono ee
    obtain⟨ef,eg,eh,rfl,kr,ks,kt,ku,gv,gw,gx,gz,kv,kw,kx,g0⟩:=A7.ex gu
    refine LF.st (vs:=[.string u.Name,.int .i64 u.Kind,.int .i64 u.Office,.int .i64 u.Cap,ef,eg,.int .i64 u.Num,.int .i64 u.Den,.int .i64 u.Down,.int .i64 u.Delay,.int .i64 u.Floor,eh]) (cs':=[.string u.Name,.int .i64 u.Kind,.int .i64 u.Office,.int .i64 u.Cap,ef,eg,.int .i64 u.Num,.int .i64 u.Den,.int .i64 u.Down,.int .i64 u.Delay,.int .i64 u.Floor,eh]) O O O (AC O (AC O (AC O (AC O (AC gv.one (AC gw.one (AC O (AC O (AC O (AC O (AC O (AC g0.one C6)))))))))))) HV O ed .head O O λky aj g1=>LF.nil (kp [4,5,16,15,3,1,17] O) (WF.rl (LF.q 6 (QF.mv O O (QF.mv O O (QF.fao O Ow O (AI Aa aj O mh O AN O (QF.fao O IZ O (AI Aa aj O mh O AN O (AE ?_)))))))))
    obtain⟨ei,ej,E⟩:=bd E
    refine LF.callb O O O OQ O aj (FP (St.all _) gx gz ej) λkz k0 k1 bg g2 k2 p=>?_
    obtain⟨rfl,g3,hc⟩:=p
    refine LF.q 1 ?_
    obtain⟨k3,ek,E⟩:=bd E
    refine QF.ixoe bg (mt mh) O O Ea ek O λk4 el=>AE ?_
    obtain⟨g4,em,E⟩:=bd E
    refine LF.ste (r:=AW.int) (l:=ag) (i:=W) (x:=g4) O O (⟨_,O,O,g3⟩:Rd _ _ AW.int _ ei) el em MS.id AN (λ_=>rfl) bg (.tail .head) λk5 en g5=>LF.nil (kp [16,15,3,1,17] O) (Al (WF.rp (.inl O) (QF.addw O O O (QF.mv O O (AA (kp [17,16,15,3,1] O) (WF.nil (λaa ww hf hw=>?_)))))))
    have eo:=en.sel [1] 1 O
    have ep:=b2.trans (ee.trans (g1.trans (g2.trans g5)))
    exact⟨(Ar (W+1)),(upd ag W ei),_,_,hf.sub (kp [16,15,3,1,17] O),hw,eo,ep,(Au _),E⟩
   ·
    have E:=Aw b3 E
    refine WF.exit O (λaa ww hf hw=>?_)
    exact⟨ag,_,_,hf.sub (kp [3,1] O),hw,ai,b2,E⟩
 ·
  rintro aa ww ⟨ba,b4,b5,hf,hw,bh,b6,E⟩
  refine WF.run ?_ hf hw
  clear hf hw ww aa
  rw[Bp] at E
  refine WF.seq (WF.seq (WF.rp (.inl O) ?_))
  have g6:=ea.mono b6
  refine QF.fa O g6 AJ.f_Links EE O λk7 g7=>QF.ldl Aa bh.1 O g7 G7 O λak eq=>QF.len O eq FT O λk9=>QF.mv O O (AA (kp [34,33,32,3] O) (WF.blockJ (λa w=>∃(ah:List Int),IV B b4 b5 (128,[]) a w [(3,k)] (OS AW.int 3 k ah::L) λ_ _=>BK N ah=some r) ?_ ?_))
  ·
   refine WF.loopF (λn3=>λa w=>∃(H:Int) (y:List Int),IV B b4 b5 (128,[]) a w [(33,.int .i64 (↑j.Links.length:Int)),(32,ak),(3,k),(34,.int .i64 H)] (OS AW.int 3 k y::L) λ_ _=>AB H∧An N j (BK N) n3 H y=some r) N ?_ ?_ ?_
   ·
    intro aa ww hf hw
    exact⟨0,ba,_,_,hf.sub (kp [33,32,3,34] O),hw,bh,(BO.refl b4 b5),(iq (n:=0) O),E⟩
   ·
    rintro aa ww ⟨_,_,_,_,_,_,_,_,_,E⟩
    rw[An] at E;cases E
   ·
    rintro n3 aa ww ⟨H,y,s,er,hf,hw,X,am,la,E⟩
    refine WF.run ?_ hf hw
    clear hf hw ww aa
    rw[An] at E
    refine WF.seq (WF.rp (.inl O) (QF.lss O O O (AA (kp [35,33,32,3,34] O) (WF.seq (WF.if_ O (λan=>?_) (λan=>?_))))))
    ·
     have E:=Av an E
     refine WF.skip (WF.seq (WF.blockJ (λa w=>∃(Y:List Int),IV B s er (128,[]) a w [(33,.int .i64 (↑j.Links.length:Int)),(32,ak),(3,k),(34,.int .i64 H)] (OS AW.int 3 k Y::L) λ_ _=>BD N H (An N j (BK N) n3) Y=some r) ?_ ?_))
     ·
      refine WF.seq (WF.rl (LF.q 2 ?_))
      have es:=eq.mono' am
      obtain⟨c,b7,E⟩:=bd E
      refine QF.ixe O O es FT b7 O λhd et=>QF.ld Aa X.1 O et C3 (λe=>by cases e) O λhe eu=>AE (LF.al KX O X λz hg b8 J=>?_)
      have ev:=eu.mono J
      obtain⟨Z,ab,ac,rfl,hi,hj,ew,hk,bi,bj,bk,hl,hm,hn,ho,bl,bm,hp,hq,bn,bo,ht⟩:=A0.ex ev
      refine LF.st (vs:=[.string c.Name,.int .i64 c.Kind,.int .i64 c.From,.int .i64 c.To,Z,ab,ac,.int .i64 c.Positions,.int .i64 c.Speed,.int .i64 c.Leak,.int .i64 c.Crest,.int .i64 c.Num,.int .i64 c.Den,.int .i64 c.Prime,.int .i64 c.Break,.int .i64 c.BackNum,.int .i64 c.BackDen,.int .i64 c.Delay]) (cs':=[.string c.Name,.int .i64 c.Kind,.int .i64 c.From,.int .i64 c.To,Z,ab,ac,.int .i64 c.Positions,.int .i64 c.Speed,.int .i64 c.Leak,.int .i64 c.Crest,.int .i64 c.Num,.int .i64 c.Den,.int .i64 c.Prime,.int .i64 c.Break,.int .i64 c.BackNum,.int .i64 c.BackDen,.int .i64 c.Delay]) O O O (AC O (AC O (AC O (AC O (AC bi.one (AC bj.one (AC bk.one (AC O (AC O (AC O (AC O (AC O (AC O (AC O (AC O (AC O (AC O (AC O C6)))))))))))))))))) C3 O b8 .head O O λC d D=>LF.nil (kp [7,33,32,3,34] O) (WF.seq (WF.rp (.inl O) (QF.fao O Ck O (AI Aa d O mh O AN O (AA (kp [39,7,33,32,3,34] O) (WF.block (WF.seq (WF.rp (.inl O) (QF.eql O O O (QF.as_ O O (AA (kp [40,39,7,33,32,3,34] O) (WF.if_ O (λao=>?_) (λao=>?_)))))))))))))
      ·
       have E:=Av ao E
       refine WF.seq ?_
       obtain⟨hu,b9,E⟩:=bd E
       obtain⟨F,ca,E⟩:=bd E
       obtain⟨G,cb,E⟩:=bd E
       obtain⟨hv,cc,E⟩:=bd E
       refine Iy (m:=[(7,.pointer (some ⟨z,0,none⟩)),(33,.int .i64 (↑j.Links.length:Int)),(32,ak),(3,k),(34,.int .i64 H)]) 17 (λi v hh=>match i with|0=>v=k|1=>v= .pointer (some ⟨z,2,none⟩)|2=>v= .int .i64 c.From∧AB c.From|3=>EP k (c.From.toNat*(AW.int).sz+0) v|4=>v= .int .i64 F∧AB F|5=>v= .pointer (some ⟨z,4,none⟩)|6=>Sl s hh A8 v c.Rate|7=>v= .pointer (some ⟨z,5,none⟩)|8=>v= .pointer (some ⟨z,5,none⟩)|9=>Sl s hh A8 v c.Band.Lo|10=>v= .pointer (some ⟨z,5,none⟩)|11=>v= .pointer (some ⟨z,6,none⟩)|12=>Sl s hh A8 v c.Band.Hi|13=>Sl (SN s C hh) hh (AW.sl A8) v ([c.Rate,c.Band.Lo,c.Band.Hi]:List (List BA))∧∃ad,v= .slice (some ad) 3 3|14=>v= .int .i64 G∧AB G|15=>v= .int .i64 (Ar (F+G))∧AB (Ar (F+G))|16=>EP k (c.From.toNat*(AW.int).sz+0) v|_=>False) [[],[],[(1,43)],[(0,42),(2,44)],[(3,45)],[],[(5,47)],[],[(7,49)],[(8,50)],[],[(10,52)],[(11,53)],[(6,48),(9,51),(12,54)],[(13,55)],[(4,46),(14,56)],[(0,42),(2,44)]] [(15,57),(16,58)] mo (by kernel_rfl) [7,33,32,3,34] O (by kernel_rfl) (by kernel_rfl) (by kernel_rfl) (kp [7,33,32,3,34] O) (λi v h1 h2 o1 o2 hr=>?_) ?_ ?_
       ·match i,hr with
         |0,hr=>exact hr
         |1,hr=>exact hr
         |2,hr=>exact hr
         |3,hr=>exact hr
         |4,hr=>exact hr
         |5,hr=>exact hr
         |6,hr=>exact Sl.mono' hr (o2.ext λb hb=>Nat.lt_of_lt_of_le (d.1 b hb) o1.siz)
         |7,hr=>exact hr
         |8,hr=>exact hr
         |9,hr=>exact Sl.mono' hr (o2.ext λb hb=>Nat.lt_of_lt_of_le (d.1 b hb) o1.siz)
         |10,hr=>exact hr
         |11,hr=>exact hr
         |12,hr=>exact Sl.mono' hr (o2.ext λb hb=>Nat.lt_of_lt_of_le (d.1 b hb) o1.siz)
         |13,hr=>exact⟨Sl.mono' hr.1 (SN.mono d.1 o1 o2),hr.2⟩
         |14,hr=>exact hr
         |15,hr=>exact hr
         |16,hr=>exact hr
         |_+17,hr=>exact hr.elim
       ·
        refine AQ.cons O ?_ ?_
        ·
         intro mq hh o
         have hsN:=o.st d
         exact LF.q 1 (QF.mv O O (AE (AD (Ap.refl _) O)))
        refine AQ.cons O ?_ ?_
        ·
         intro mq hh o
         have hsN:=o.st d
         exact LF.q 1 (QF.fao O Gd O (AE (AD (Ap.refl _) O)))
        refine AQ.cons O ?_ ?_
        ·
         intro mq hh o
         intro hx ey
         have hsN:=o.st d
         cases ey
         exact LF.q 1 (AI Aa hsN O mh O AN O (AE (AD (Ap.refl _) ⟨O,ew⟩)))
        refine AQ.cons O ?_ ?_
        ·
         intro mq hh o
         intro hy ez hz e0
         have hsN:=o.st d
         cases ez
         obtain⟨rfl,h0⟩:=e0
         exact LF.q 1 (QF.ixoe hsN (mt mh) O O Ea b9 O λh4 cd=>AE (AD (Ap.refl _) cd))
        refine AQ.cons O ?_ ?_
        ·
         intro mq hh o
         intro h5 e1
         have hsN:=o.st d
         refine LF.q 1 ?_
         have e2:=hsN.epAt (mt mh) ca D8.id e1
         exact QF.ldi Aa (λ_ x=>x) O e2 AN O λe3=>AE (AD (Ap.refl _) ⟨O,e3⟩)
        refine AQ.cons O ?_ ?_
        ·
         intro mq hh o
         have hsN:=o.st d
         exact LF.q 1 (QF.fao O Kt O (AE (AD (Ap.refl _) O)))
        refine AQ.cons O ?_ ?_
        ·
         intro mq hh o
         intro h6 e4
         have hsN:=o.st d
         cases e4
         refine LF.q 1 (AI Aa hsN O mh O GU O (AE ?_))
         have e6:=bi.mono' (D.trans (o.ext d.1))
         exact AD (Ap.refl _) e6
        refine AQ.cons O ?_ ?_
        ·
         intro mq hh o
         have hsN:=o.st d
         exact LF.q 1 (QF.fao O HA O (AE (AD (Ap.refl _) O)))
        refine AQ.cons O ?_ ?_
        ·
         intro mq hh o
         intro h7 e7
         have hsN:=o.st d
         cases e7
         exact LF.q 1 (QF.fao O Kv O (AE (AD (Ap.refl _) O)))
        refine AQ.cons O ?_ ?_
        ·
         intro mq hh o
         intro h8 e8
         have hsN:=o.st d
         cases e8
         refine LF.q 1 (AI Aa hsN O mh O GU O (AE ?_))
         have e9:=bj.mono' (D.trans (o.ext d.1))
         exact AD (Ap.refl _) e9
        refine AQ.cons O ?_ ?_
        ·
         intro mq hh o
         have hsN:=o.st d
         exact LF.q 1 (QF.fao O HA O (AE (AD (Ap.refl _) O)))
        refine AQ.cons O ?_ ?_
        ·
         intro mq hh o
         intro h9 fb
         have hsN:=o.st d
         cases fb
         exact LF.q 1 (QF.fao O Ku O (AE (AD (Ap.refl _) O)))
        refine AQ.cons O ?_ ?_
        ·
         intro mq hh o
         intro ia fc
         have hsN:=o.st d
         cases fc
         refine LF.q 1 (AI Aa hsN O mh O GU O (AE ?_))
         have fd:=bk.mono' (D.trans (o.ext d.1))
         exact AD (Ap.refl _) fd
        refine AQ.cons O ?_ ?_
        ·
         intro mq hh o
         intro fe K ff M fg Q
         have hsN:=SN.st d o
         have K:=Sl.mono' (S':=(SN s C hh)) K ⟨λb hb=> .inl hb,λ_ _=>rfl,Nat.le_refl _⟩
         have K:Sl _ _ A8 fe c.Rate:=K
         have M:=Sl.mono' (S':=(SN s C hh)) M ⟨λb hb=> .inl hb,λ_ _=>rfl,Nat.le_refl _⟩
         have M:Sl _ _ A8 ff c.Band.Lo:=M
         have Q:=Sl.mono' (S':=(SN s C hh)) Q ⟨λb hb=> .inl hb,λ_ _=>rfl,Nat.le_refl _⟩
         have Q:Sl _ _ A8 fg c.Band.Hi:=Q
         have hsF:=hsN.fz
         obtain⟨ce,bb,rfl,ib⟩:=(K).len
         obtain⟨cf,bc,rfl,ic⟩:=(M).len
         obtain⟨cg,be,rfl,ie⟩:=(Q).len
         refine Gn (cs:=[(.slice ce c.Rate.length bb),(.slice cf c.Band.Lo.length bc),(.slice cg c.Band.Hi.length be)]) V4 O O O O O O O hsF λig ih ch ae=>?_
         have fh:=Q.mono' ae
         have fi:=M.mono' ae
         have fj:=K.mono' ae
         have ci:=ch.bxos (r:=(AW.sl A8)) (l:=([c.Rate,c.Band.Lo,c.Band.Hi]:List (List BA))) .head ⟨_,_,O,⟨_,O,fj⟩,⟨_,_,O,⟨_,O,fi⟩,⟨_,_,O,⟨_,O,fh⟩,O⟩⟩⟩ (by simp [maxLen])
         obtain⟨ii,cj,fk,fl⟩:=ci.pubs .head
         have ap:=Fz.done o (ae.trans fk) cj
         exact AD ap.1 ⟨Sl.mono' fl ap.2,_,O⟩
        refine AQ.cons O ?_ ?_
        ·
         intro mq hh o
         intro ij aq
         have hsN:=SN.st d o
         obtain⟨aq,g8,rfl⟩:=aq
         refine LF.callb O O O Xw O hsN (Lu (St.all _) (aq.mono (λb hb=>hsN.1 b hb) (λ_ _=>rfl)) cb) λik il im g9 io bp p=>?_
         obtain⟨rfl,fm,ha⟩:=p
         exact AD ⟨bp.siz,λb hb=>bp.same b hb⟩ ⟨O,fm⟩
        refine AQ.cons O ?_ ?_
        ·
         intro mq hh o
         intro ip fn ir fo
         have hsN:=o.st d
         obtain⟨rfl,it⟩:=fn
         obtain⟨rfl,iu⟩:=fo
         exact LF.q 1 (QF.addw O O O (AE (AD (Ap.refl _) ⟨O,(Au _)⟩)))
        refine AQ.cons O ?_ ?_
        ·
         intro mq hh o
         intro iv fp iw fq
         have hsN:=o.st d
         cases fp
         obtain⟨rfl,iy⟩:=fq
         exact LF.q 1 (QF.ixoe hsN (mt mh) O O Ea cc O λiz ck=>AE (AD (Ap.refl _) ck))
        exact trivial
       intro i0 ar i1 fr i2 fs
       have cl:=SN.st d ar
       obtain⟨rfl,ft⟩:=fr
       obtain⟨fu,cm,E⟩:=bd E
       refine LF.ste (r:=AW.int) (l:=y) (i:=c.From) (x:=fu) O O (⟨_,O,O,ft⟩:Rd _ _ AW.int _ (Ar (F+G))) fs cm MS.id AN (λ_=>rfl) cl (.tail .head) λi3 t bq=>LF.nil (kp [7,33,32,3,34] O) (WF.seq (WF.rp (.inl O) (QF.fao O E8 O (AI Aa t O mh O AN O (QF.neq O O O (AA (kp [61,7,33,32,3,34] O) (WF.if_ O (λau=>?_) (λau=>?_))))))))
       ·
        have E:=Av au E
        refine EC 12 mo (by kernel_rfl) O t (QF.mv O O (QF.fao O E8 O (AI Ak t O mh O AN O ?_)))
        obtain⟨i4,cn,E⟩:=bd E
        refine QF.ixoe t (mt mh) O O Ea cn O λi5 co=>?_
        obtain⟨br,cp,E⟩:=bd E
        have fv:=t.epAt (mt mh) cp D8.id co
        refine QF.ldi Ak (λ_ x=>x) O fv AN O λi6=>QF.fao O Hw O (AI Ak t O mh O AN O (QF.fao O HZ O (AI Ak t O mh O AN O ?_)))
        obtain⟨bt,cq,E⟩:=bd E
        refine Af O O O OQ O (λh' o=>FP (St.all h') bn bo cq) λfw=>?_
        have i7:=fw
        refine QF.addw O O O ?_
        obtain⟨i8,cr,E⟩:=bd E
        refine QF.ixoe t (mt mh) O O Ea cr O λi9 ct=>C1 λja cu fx=>?_
        obtain⟨fy,cv,E⟩:=bd E
        refine LF.ste (r:=AW.int) (l:=(upd y c.From (Ar (F+G)))) (i:=c.To) (x:=fy) O O (⟨_,O,O,(Au _)⟩:Rd _ _ AW.int _ (Ar (br+bt))) ct cv MS.id AN (λ_=>rfl) cu (.tail .head) λjb cw f0=>LF.nil (kp [33,32,3,34] O) (Al (WF.nil (λaa ww hf hw=>?_)))
        have cx:=cw.sel [1] 1 O
        have cy:=J.trans (D.trans ((SN.ext d.1 ar).trans (bq.trans (fx.trans f0))))
        exact⟨(upd (upd y c.From (Ar (F+G))) c.To (Ar (br+bt))),_,_,hf.sub (kp [33,32,3,34] O),hw,cx,cy,E⟩
       ·
        have E:=Aw au E
        refine WF.skip (Al (WF.nil (λaa ww hf hw=>?_)))
        have cz:=t.sel [1] 1 O
        have c0:=J.trans (D.trans ((SN.ext d.1 ar).trans bq))
        exact⟨(upd y c.From (Ar (F+G))),_,_,hf.sub (kp [33,32,3,34] O),hw,cz,c0,E⟩
      ·
       have E:=Aw ao E
       refine WF.seq (WF.seq (WF.rp (.inl O) (QF.eql O O O (QF.as_ O O (AA (kp [74,39,7,33,32,3,34] O) (WF.cut (λa w=>∃(av:Bool),IV B s C (128,[]) a w [(39,.int .i64 c.Kind),(7,.pointer (some ⟨z,0,none⟩)),(33,.int .i64 (↑j.Links.length:Int)),(32,ak),(3,k),(34,.int .i64 H),(74,.bool av)] (Bx z 102 [.string c.Name,.int .i64 c.Kind,.int .i64 c.From,.int .i64 c.To,Z,ab,ac,.int .i64 c.Positions,.int .i64 c.Speed,.int .i64 c.Leak,.int .i64 c.Crest,.int .i64 c.Num,.int .i64 c.Den,.int .i64 c.Prime,.int .i64 c.Break,.int .i64 c.BackNum,.int .i64 c.BackDen,.int .i64 c.Delay]::OS AW.int 3 k y::L) λ_ _=>Bo N y c (BD N H (An N j (BK N) n3)) av=some r) ?_ ?_))))))
       ·
        refine WF.if_ O (λaw=>?_) (λaw=>?_)
        ·
         have E:=Av aw E
         refine WF.skip (WF.nil (λaa ww hf hw=>?_))
         exact⟨(decide (c.Kind=1)),_,_,hf.sub (kp [39,7,33,32,3,34,74] O),hw,d,(BO.refl s C),E⟩
        ·
         have E:=Aw aw E
         refine WF.seq (WF.rp (.inl O) (QF.eql O O O (QF.as_ O O (AA (kp [74,39,7,33,32,3,34] O) (WF.cut (λa w=>∃(af:Bool),IV B s C (128,[]) a w [(39,.int .i64 c.Kind),(7,.pointer (some ⟨z,0,none⟩)),(33,.int .i64 (↑j.Links.length:Int)),(32,ak),(3,k),(34,.int .i64 H),(74,.bool af)] (Bx z 102 [.string c.Name,.int .i64 c.Kind,.int .i64 c.From,.int .i64 c.To,Z,ab,ac,.int .i64 c.Positions,.int .i64 c.Speed,.int .i64 c.Leak,.int .i64 c.Crest,.int .i64 c.Num,.int .i64 c.Den,.int .i64 c.Prime,.int .i64 c.Break,.int .i64 c.BackNum,.int .i64 c.BackDen,.int .i64 c.Delay]::OS AW.int 3 k y::L) λ_ _=>Ey N (Bo N y c (BD N H (An N j (BK N) n3))) af=some r) ?_ ?_)))))
         ·
          refine WF.if_ O (λax=>?_) (λax=>?_)
          ·
           have E:=Av ax E
           refine WF.skip (WF.nil (λaa ww hf hw=>?_))
           exact⟨(decide (c.Kind=5)),_,_,hf.sub (kp [39,7,33,32,3,34,74] O),hw,d,(BO.refl s C),E⟩
          ·
           have E:=Aw ax E
           refine WF.rp (.inl O) (QF.eql O O O (QF.as_ O O (AA (kp [74,39,7,33,32,3,34] O) (WF.nil (λaa ww hf hw=>?_)))))
           exact⟨(decide (c.Kind=3)),_,_,hf.sub (kp [39,7,33,32,3,34,74] O),hw,d,(BO.refl s C),E⟩
         ·
          rintro aa ww ⟨af,jc,jd,hf,hw,c1,f1,E⟩
          refine WF.run ?_ hf hw
          clear hf hw ww aa
          rw[Ey] at E
          refine WF.nil (λaa ww hf hw=>?_)
          exact⟨af,_,_,hf.sub (kp [39,7,33,32,3,34,74] O),hw,c1,f1,E⟩
       ·
        rintro aa ww ⟨av,je,jf,hf,hw,g,ay,E⟩
        refine WF.run ?_ hf hw
        clear hf hw ww aa
        rw[Bo] at E
        refine WF.if_ O (λaz=>?_) (λaz=>?_)
        ·
         have E:=Av az E
         refine EC 12 mo (by kernel_rfl) O g (QF.mv O O (QF.fao O Gd O (AI Ak g O mh O AN O ?_)))
         obtain⟨jg,c2,E⟩:=bd E
         refine QF.ixoe g (mt mh) O O Ea c2 O λjh c3=>?_
         obtain⟨bu,c4,E⟩:=bd E
         have f2:=g.epAt (mt mh) c4 D8.id c3
         refine QF.ldi Ak (λ_ x=>x) O f2 AN O λji=>QF.fao O Fw O (AI Ak g O mh O AN O (QF.fao O Gs O (AI Ak g O mh O AN O ?_)))
         obtain⟨bv,c5,E⟩:=bd E
         refine Af O O O OQ O (λh' o=>FP (St.all h') bl bm c5) λf3=>?_
         have jj:=f3
         refine QF.addw O O O ?_
         obtain⟨jk,c6,E⟩:=bd E
         refine QF.ixoe g (mt mh) O O Ea c6 O λjl c7=>C1 λjm c8 f4=>?_
         obtain⟨f5,c9,E⟩:=bd E
         refine LF.ste (r:=AW.int) (l:=y) (i:=c.From) (x:=f5) O O (⟨_,O,O,(Au _)⟩:Rd _ _ AW.int _ (Ar (bu+bv))) c7 c9 MS.id AN (λ_=>rfl) c8 (.tail .head) λjn da f6=>LF.nil (kp [33,32,3,34] O) (Al (WF.nil (λaa ww hf hw=>?_)))
         have db:=da.sel [1] 1 O
         have dc:=J.trans (D.trans (ay.trans (f4.trans f6)))
         exact⟨(upd y c.From (Ar (bu+bv))),_,_,hf.sub (kp [33,32,3,34] O),hw,db,dc,E⟩
        ·
         have E:=Aw az E
         refine WF.seq (WF.rp (.inl O) (QF.eql O O O (QF.as_ O O (AA (kp [90,7,33,32,3,34] O) (WF.if_ O (λa0=>?_) (λa0=>?_))))))
         ·
          have E:=Av a0 E
          refine WF.seq (EC 13 mo (by kernel_rfl) O g (QF.mv O O (QF.fao O Gd O (AI Ak g O mh O AN O ?_))))
          obtain⟨jo,dd,E⟩:=bd E
          refine QF.ixoe g (mt mh) O O Ea dd O λjp de=>?_
          obtain⟨a1,df,E⟩:=bd E
          have f7:=g.epAt (mt mh) df D8.id de
          refine QF.ldi Ak (λ_ x=>x) O f7 AN O λjq=>QF.fao O Fw O (AI Ak g O mh O AN O (QF.fao O Gs O (AI Ak g O mh O AN O ?_)))
          obtain⟨a2,dg,E⟩:=bd E
          refine Af O O O OQ O (λh' o=>FP (St.all h') bl bm dg) λf8=>?_
          have jr:=f8
          refine QF.mulw O O O (QF.addw O O O ?_)
          obtain⟨js,dh,E⟩:=bd E
          refine QF.ixoe g (mt mh) O O Ea dh O λjt di=>C1 λju dj f9=>?_
          obtain⟨ga,dk,E⟩:=bd E
          refine LF.ste (r:=AW.int) (l:=y) (i:=c.From) (x:=ga) O O (⟨_,O,O,(Au _)⟩:Rd _ _ AW.int _ (Ar (a1+(Ar (2*a2))))) di dk MS.id AN (λ_=>rfl) dj (.tail .head) λjv A gb=>LF.nil (kp [7,33,32,3,34] O) (EC 13 mo (by kernel_rfl) O A (QF.mv O O (QF.fao O E8 O (AI Ak A O mh O AN O ?_))))
          obtain⟨jw,dl,E⟩:=bd E
          refine QF.ixoe A (mt mh) O O Ea dl O λjx dm=>?_
          obtain⟨bw,dn,E⟩:=bd E
          have gc:=A.epAt (mt mh) dn D8.id dm
          refine QF.ldi Ak (λ_ x=>x) O gc AN O λjy=>QF.fao O Hw O (AI Ak A O mh O AN O (QF.fao O HZ O (AI Ak A O mh O AN O ?_)))
          obtain⟨bx,dp,E⟩:=bd E
          refine Af O O O OQ O (λh' o=>FP (St.all h') bn bo dp) λge=>?_
          have jz:=ge
          refine QF.mulw O O O (QF.addw O O O ?_)
          obtain⟨j0,dq,E⟩:=bd E
          refine QF.ixoe A (mt mh) O O Ea dq O λj1 dr=>C1 λj2 ds gf=>?_
          obtain⟨gg,dt,E⟩:=bd E
          refine LF.ste (r:=AW.int) (l:=(upd y c.From (Ar (a1+(Ar (2*a2)))))) (i:=c.To) (x:=gg) O O (⟨_,O,O,(Au _)⟩:Rd _ _ AW.int _ (Ar (bw+(Ar (2*bx))))) dr dt MS.id AN (λ_=>rfl) ds (.tail .head) λj3 du gh=>LF.nil (kp [33,32,3,34] O) (Al (WF.nil (λaa ww hf hw=>?_)))
          have dv:=du.sel [1] 1 O
          have dw:=J.trans (D.trans (ay.trans (f9.trans (gb.trans (gf.trans gh)))))
          exact⟨(upd (upd y c.From (Ar (a1+(Ar (2*a2))))) c.To (Ar (bw+(Ar (2*bx))))),_,_,hf.sub (kp [33,32,3,34] O),hw,dv,dw,E⟩
         ·
          have E:=Aw a0 E
          refine WF.skip (Al (WF.nil (λaa ww hf hw=>?_)))
          have dx:=g.sel [1] 1 O
          have dy:=J.trans (D.trans ay)
          exact⟨y,_,_,hf.sub (kp [33,32,3,34] O),hw,dx,dy,E⟩
     ·
      rintro aa ww ⟨Y,j4,j5,hf,hw,dz,gi,E⟩
      refine WF.run ?_ hf hw
      clear hf hw ww aa
      rw[BD] at E
      refine WF.rp (.inl O) (QF.addw O O O (QF.mv O O (AA (kp [34,33,32,3] O) (WF.nil (λaa ww hf hw=>?_)))))
      exact⟨(Ar (H+1)),Y,_,_,hf.sub (kp [33,32,3,34] O),hw,dz,(am.trans gi),(Au _),E⟩
    ·
     have E:=Aw an E
     refine WF.exit O (λaa ww hf hw=>?_)
     exact⟨y,_,_,hf.sub (kp [3] O),hw,X,am,E⟩
  ·
   rintro aa ww ⟨ah,a3,a4,hf,hw,a5,bz,E⟩
   refine WF.run ?_ hf hw
   clear hf hw ww aa
   rw[BK] at E
   refine WF.seq (WF.seq (WF.rp (.inl O) (QF.mv O O (QF.leno a5 mh O Ea O λj6=>QF.mv O O (AA (kp [121,120,119] O) (WF.blockJ (λa w=>IV B a3 a4 (128,[]) a w [] (L) λ_ _=>Cy N=some r) ?_ ?_))))))
   ·
    refine WF.loopF (λn8=>λa w=>∃(V:Int),IV B a3 a4 (128,[]) a w [(120,.int .i64 (↑ah.length:Int)),(119,k),(121,.int .i64 V)] (OS AW.int 3 k ah::L) λ_ _=>AB V∧Bm N ah (Cy N) n8 V=some r) N ?_ ?_ ?_
    ·
     intro aa ww hf hw
     exact⟨0,_,_,hf.sub (kp [120,119,121] O),hw,a5,(BO.refl a3 a4),(iq (n:=0) O),E⟩
    ·
     rintro aa ww ⟨_,_,_,_,_,_,_,_,E⟩
     rw[Bm] at E;cases E
    ·
     rintro n8 aa ww ⟨V,j7,j8,hf,hw,I,a6,j9,E⟩
     refine WF.run ?_ hf hw
     clear hf hw ww aa
     rw[Bm] at E
     refine WF.seq (WF.rp (.inl O) (QF.lss O O O (AA (kp [122,120,119,121] O) (WF.seq (WF.if_ O (λa7=>?_) (λa7=>?_))))))
     ·
      have E:=Av a7 E
      refine WF.skip (WF.seq (WF.block (WF.seq (WF.rp (.inl O) ?_))))
      obtain⟨ka,d0,E⟩:=bd E
      refine QF.ixoe I mh O O Ea d0 O λkb d1=>?_
      obtain⟨kc,d2,E⟩:=bd E
      have gj:=I.epAt mh d2 D8.id d1
      refine QF.ldi Aa (λ_ x=>x) O gj AN O λkd=>QF.as_ O O (AA (kp [9,120,119,121] O) (WF.seq (WF.rp (.inl O) (QF.mv O O (QF.gtr O O O (AA (kp [126,120,119,121] O) (WF.if_ O (λa8=>?_) (λa8=>?_))))))))
      ·
       have E:=Av a8 E
       refine WF.seq (WF.rp (.inl O) (QF.as_ O O (AA (kp [2] O) (WF.ret (λaa ww hf hw=>?_)))))
       have d3:=I.drop .head
       cases E
       have d4:=e5.trans (b1.trans (b6.trans (bz.trans a6)))
       exact CS hf hw O O d4 ⟨O,d3⟩
      ·
       have E:=Aw a8 E
       refine WF.skip (Al (WF.rp (.inl O) (QF.addw O O O (QF.mv O O (AA (kp [121,120,119] O) (WF.nil (λaa ww hf hw=>?_)))))))
       exact⟨(Ar (V+1)),_,_,hf.sub (kp [120,119,121] O),hw,I,a6,(Au _),E⟩
     ·
      have E:=Aw a7 E
      refine WF.exit O (λaa ww hf hw=>?_)
      have d5:=I.drop .head
      exact⟨_,_,hf.sub KI,hw,d5,a6,E⟩
   ·
    rintro aa ww ⟨ke,kf,hf,hw,d6,gk,E⟩
    refine WF.run ?_ hf hw
    clear hf hw ww aa
    rw[Cy] at E
    refine WF.seq (WF.rp (.inl O) (QF.as_ O O (AA (kp [2] O) (WF.ret (λaa ww hf hw=>?_)))))
    cases E
    have d7:=e5.trans (b1.trans (b6.trans (bz.trans gk)))
    exact CS hf hw O O d7 ⟨O,d6⟩
theorem Kz (hs:St S L h) {m:Value}{b:AJ}(F:Rd S h A3 m b) {r:Bool}(E:FA N b=some r):
 BP Tryz.prog 42 #[m] S h (λv S' h'=>v= .bool r∧St S' (L) h'):=by
 refine Ac (l:=[m]) 64 Tryz.func42 O Tryz.ntmps42 O λB=>?_
 rw[FA] at E
 refine WF.seq (WF.rl (LF.boxp O F (λe=>by cases e) O hs λq1 S2 h3 am e5 k6=>LF.q 1 (QF.as_ O O (AE (LF.nil (kp [1] O) (WF.seq (WF.seq (WF.rp (.inl O) (QF.fa O k6 Gp MJ O λq7 k8=>QF.ldl Aa am.1 O k8 PT O λv9 an=>QF.len O an NT O λcg=>QF.mv O O ?_)))))))))
 refine AA (kp [10,9,8,1] O) (WF.blockJ (λa w=>IV B S2 h3 (64,[]) a w [(1,q1)] (L) λ_ _=>Bw N b=some r) ?_ ?_)
 ·
  refine WF.loopF (λn1=>λa w=>∃(s:Int),IV B S2 h3 (64,[]) a w [(9,.int .i64 (↑b.Towns.length:Int)),(8,v9),(1,q1),(10,.int .i64 s)] (L) λ_ _=>AB s∧Bv N b (Bw N b) n1 s=some r) N ?_ ?_ ?_
  ·
   intro aa ww hf hw
   exact⟨0,_,_,hf.sub (kp [9,8,1,10] O),hw,am,(BO.refl S2 h3),(iq (n:=0) O),E⟩
  ·
   rintro aa ww ⟨_,_,_,_,_,_,_,_,E⟩
   rw[Bv] at E;cases E
  ·
   rintro n1 aa ww ⟨s,ch,ci,hf,hw,t,u,cj,E⟩
   refine WF.run ?_ hf hw
   clear hf hw ww aa
   rw[Bv] at E
   refine WF.seq (WF.rp (.inl O) (QF.lss O O O (AA (kp [11,9,8,1,10] O) (WF.seq (WF.if_ O (λU=>?_) (λU=>?_))))))
   ·
    have E:=Av U E
    refine WF.skip (WF.seq (WF.block (WF.seq (WF.rl (LF.q 2 ?_)))))
    have bk:=an.mono' u
    obtain⟨p,ao,E⟩:=bd E
    refine QF.ixe O O bk NT ao O λck bl=>QF.ld Aa t.1 O bl Oe (λe=>by cases e) O λcl bm=>AE (LF.al R4 O t λcm cn ap G=>?_)
    have bn:=bm.mono G
    obtain⟨rfl,⟨co,bo,bp,bq,br,bt,bu⟩⟩:=FI.ex bn
    refine Aj (vs:=[.string p.Name,.int .i64 p.Place,.int .i64 p.Flood,.int .i64 p.Lead,.int .i64 p.People,.int .i64 p.Watch,.int .i64 p.Quorum]) O O O O Oe O ap .head O λcp c V=>LF.nil (kp [4,9,8,1,10] O) (WF.seq (WF.rc (.inl O) c (QF.fao O Tb O (AI Ak c O mh O AN O ?_))))
    have aq:=u.trans (G.trans V)
    have bv:=k6.mono aq
    refine QF.fa O bv Ah Bs O λcq bw=>QF.ldl Ak c.1 O bw EY O λcr bx=>QF.len O bx Dk O λbz=>?_
    obtain⟨b0,ar,E⟩:=bd E
    refine AZ O O O Nr O (λh' o=>Em (St.all h') bo (IJ bz) ar) (QF.not O O (QF.mv O O ?_))
    obtain⟨au,d,E⟩:=bd E
    refine QF.cutv 5 26 (.bool au) ?_ ?_
    ·
     cases av:(!b0)
     ·
      have d:=Aw av d
      refine QF.gy O O O (QF.fao O Ta O (QF.gy O O O (AI Ak c O mh O AN O (QF.gy O O O ?_))))
      obtain⟨cs,aw,d⟩:=bd d
      refine AZ O O O Hr O (λh' o=>BB (St.all h') bp aw) (QF.gy O O O (QF.not O O (QF.pick O O O ?_)))
      cases d
      exact AH O
     ·
      have d:=Av av d
      cases d
      exact AL O O
    refine QF.mv O O ?_
    obtain⟨ax,g,E⟩:=bd E
    refine QF.cutv 5 32 (.bool ax) ?_ ?_
    ·
     cases ay:au
     ·
      have g:=Aw ay g
      refine QF.gy O O O (QF.fao O TZ O (QF.gy O O O (AI Ak c O mh O AN O (QF.gy O O O ?_))))
      obtain⟨ct,az,g⟩:=bd g
      refine AZ O O O F7 O (λh' o=>A6 (St.all h') bq (iq (n:=0) O) (iq (n:=24) O) az) (QF.gy O O O (QF.not O O (QF.pick O O O ?_)))
      cases g
      exact AH O
     ·
      have g:=Av ay g
      cases g
      exact AL O O
    refine QF.mv O O ?_
    obtain⟨a0,i,E⟩:=bd E
    refine QF.cutv 5 38 (.bool a0) ?_ ?_
    ·
     cases a1:ax
     ·
      have i:=Aw a1 i
      refine QF.gy O O O (QF.fao O TY O (QF.gy O O O (AI Ak c O mh O AN O (QF.gy O O O ?_))))
      obtain⟨cu,a2,i⟩:=bd i
      refine AZ O O O F7 O (λh' o=>A6 (St.all h') br (iq (n:=0) O) (iq (n:=1073741824) O) a2) (QF.gy O O O (QF.not O O (QF.pick O O O ?_)))
      cases i
      exact AH O
     ·
      have i:=Av a1 i
      cases i
      exact AL O O
    refine QF.mv O O ?_
    obtain⟨a3,j,E⟩:=bd E
    refine QF.cutv 5 44 (.bool a3) ?_ ?_
    ·
     cases a4:a0
     ·
      have j:=Aw a4 j
      refine QF.gy O O O (QF.fao O TX O (QF.gy O O O (AI Ak c O mh O AN O (QF.gy O O O ?_))))
      obtain⟨cv,a5,j⟩:=bd j
      refine AZ O O O Hr O (λh' o=>BB (St.all h') bt a5) (QF.gy O O O (QF.not O O (QF.pick O O O ?_)))
      cases j
      exact AH O
     ·
      have j:=Av a4 j
      cases j
      exact AL O O
    refine QF.mv O O ?_
    obtain⟨b1,k,E⟩:=bd E
    refine QF.cutv 5 50 (.bool b1) ?_ ?_
    ·
     cases a6:a3
     ·
      have k:=Aw a6 k
      refine QF.gy O O O (QF.fao O TW O (QF.gy O O O (AI Ak c O mh O AN O (QF.gy O O O ?_))))
      obtain⟨cw,a7,k⟩:=bd k
      refine AZ O O O F7 O (λh' o=>A6 (St.all h') bu (iq (n:=0) O) (iq (n:=128) O) a7) (QF.gy O O O (QF.not O O (QF.pick O O O ?_)))
      cases k
      exact AH O
     ·
      have k:=Av a6 k
      cases k
      exact AL O O
    refine Ai (kp [50,9,8,1,10] O) λcx I a8=>WF.if_ O (λW=>?_) (λW=>?_)
    ·
     have E:=Av W E
     refine WF.seq (WF.rp (.inl O) (QF.as_ O O (AA (kp [2] O) (WF.ret (λaa ww hf hw=>?_)))))
     have a9:=I.drop .head
     cases E
     have ba:=e5.trans (u.trans (G.trans (V.trans a8)))
     exact CS hf hw O O ba ⟨O,a9⟩
    ·
     have E:=Aw W E
     refine WF.skip (Al (WF.rp (.inl O) (QF.addw O O O (QF.mv O O (AA (kp [10,9,8,1] O) (WF.nil (λaa ww hf hw=>?_)))))))
     have bb:=I.drop .head
     have bc:=u.trans (G.trans (V.trans a8))
     exact⟨(Ar (s+1)),_,_,hf.sub (kp [9,8,1,10] O),hw,bb,bc,(Au _),E⟩
   ·
    have E:=Aw U E
    refine WF.exit O (λaa ww hf hw=>?_)
    exact⟨_,_,hf.sub (kp [1] O),hw,t,u,E⟩
 ·
  rintro aa ww ⟨X,Y,hf,hw,J,Z,E⟩
  refine WF.run ?_ hf hw
  clear hf hw ww aa
  rw[Bw] at E
  refine WF.seq (WF.seq (WF.rp (.inl O) ?_))
  have b2:=k6.mono Z
  refine QF.fa O b2 GZ NM O λcy b3=>QF.ldl Aa J.1 O b3 Qn O λb4 be=>QF.len O be OG O λcz=>QF.mv O O (AA (kp [55,54,53] O) (WF.blockJ (λa w=>IV B X Y (64,[]) a w [] (L) λ_ _=>DA N=some r) ?_ ?_))
  ·
   refine WF.loopF (λn3=>λa w=>∃(x:Int),IV B X Y (64,[]) a w [(54,.int .i64 (↑b.Shelters.length:Int)),(53,b4),(55,.int .i64 x)] (L) λ_ _=>AB x∧Bu N b (DA N) n3 x=some r) N ?_ ?_ ?_
   ·
    intro aa ww hf hw
    exact⟨0,_,_,hf.sub (kp [54,53,55] O),hw,J,(BO.refl X Y),(iq (n:=0) O),E⟩
   ·
    rintro aa ww ⟨_,_,_,_,_,_,_,_,E⟩
    rw[Bu] at E;cases E
   ·
    rintro n3 aa ww ⟨x,c0,c1,hf,hw,y,H,c2,E⟩
    refine WF.run ?_ hf hw
    clear hf hw ww aa
    rw[Bu] at E
    refine WF.seq (WF.rp (.inl O) (QF.lss O O O (AA (kp [56,54,53,55] O) (WF.seq (WF.if_ O (λab=>?_) (λab=>?_))))))
    ·
     have E:=Av ab E
     refine WF.skip (WF.seq (WF.block (WF.seq (WF.rl (LF.q 2 ?_)))))
     have b5:=be.mono' H
     obtain⟨K,ac,E⟩:=bd E
     refine QF.ixe O O b5 OG ac O λb6 bf=>QF.ld Aa y.1 O bf Oc (λe=>by cases e) O λb7 bg=>AE (LF.al R1 O y λb8 b9 ad z=>?_)
     have bh:=bg.mono z
     obtain⟨rfl,⟨ca,bi⟩⟩:=B9.ex bh
     refine Aj (vs:=[.string K.Name,.int .i64 K.Room]) O O O O Oc O ad .head O λcb A M=>LF.nil (kp [6,54,53,55] O) (WF.seq (WF.rc (.inl O) A (QF.fao O TQ O (AI Ak A O mh O AN O ?_))))
     obtain⟨cc,ae,E⟩:=bd E
     refine AZ O O O F7 O (λh' o=>A6 (St.all h') bi (iq (n:=0) O) (iq (n:=1073741824) O) ae) (QF.not O O (Ai (kp [62,54,53,55] O) λcd C Q=>WF.if_ O (λD=>?_) (λD=>?_)))
     ·
      have E:=Av D E
      refine WF.seq (WF.rp (.inl O) (QF.as_ O O (AA (kp [2] O) (WF.ret (λaa ww hf hw=>?_)))))
      have af:=C.drop .head
      cases E
      have ag:=e5.trans (Z.trans (H.trans (z.trans (M.trans Q))))
      exact CS hf hw O O ag ⟨O,af⟩
     ·
      have E:=Aw D E
      refine WF.skip (Al (WF.rp (.inl O) (QF.addw O O O (QF.mv O O (AA (kp [55,54,53] O) (WF.nil (λaa ww hf hw=>?_)))))))
      have ah:=C.drop .head
      have ai:=H.trans (z.trans (M.trans Q))
      exact⟨(Ar (x+1)),_,_,hf.sub (kp [54,53,55] O),hw,ah,ai,(Au _),E⟩
    ·
     have E:=Aw ab E
     refine WF.exit O (λaa ww hf hw=>?_)
     exact⟨_,_,hf.sub KI,hw,y,H,E⟩
  ·
   rintro aa ww ⟨ce,cf,hf,hw,aj,bj,E⟩
   refine WF.run ?_ hf hw
   clear hf hw ww aa
   rw[DA] at E
   refine WF.seq (WF.rp (.inl O) (QF.as_ O O (AA (kp [2] O) (WF.ret (λaa ww hf hw=>?_)))))
   cases E
   have ak:=e5.trans (Z.trans bj)
   exact CS hf hw O O ak ⟨O,aj⟩
theorem KU (hs:St S L h) {g:Value}{b:AJ}(A:Rd S h A3 g b) {r:Bool}(E:Er N b=some r):
 BP Tryz.prog 43 #[g] S h (λv S' h'=>v= .bool r∧St S' (L) h'):=by
 refine Ac (l:=[g]) 47 Tryz.func43 O Tryz.ntmps43 O λB=>?_
 rw[Er] at E
 refine WF.seq (WF.rl (LF.boxp O A (λe=>by cases e) O hs λq1 S2 h3 K e5 k6=>LF.q 1 (QF.as_ O O (AE (LF.nil (kp [1] O) (WF.seq (WF.seq (WF.rp (.inl O) (QF.fa O k6 Zq Oz O λq7 k8=>QF.ldl Aa K.1 O k8 SE O λv9 M=>QF.len O M Pb O λbf=>QF.mv O O ?_)))))))))
 refine AA (kp [9,8,7,1] O) (WF.blockJ (λa w=>IV B S2 h3 (47,[]) a w [] (L) λ_ _=>Cz N=some r) ?_ ?_)
 ·
  refine WF.loopF (λn1=>λa w=>∃(s:Int),IV B S2 h3 (47,[]) a w [(8,.int .i64 (↑b.Gauges.length:Int)),(7,v9),(1,q1),(9,.int .i64 s)] (L) λ_ _=>AB s∧Bq N b (Cz N) n1 s=some r) N ?_ ?_ ?_
  ·
   intro aa ww hf hw
   exact⟨0,_,_,hf.sub (kp [8,7,1,9] O),hw,K,(BO.refl S2 h3),(iq (n:=0) O),E⟩
  ·
   rintro aa ww ⟨_,_,_,_,_,_,_,_,E⟩
   rw[Bq] at E;cases E
  ·
   rintro n1 aa ww ⟨s,bg,bh,hf,hw,t,m,bi,E⟩
   refine WF.run ?_ hf hw
   clear hf hw ww aa
   rw[Bq] at E
   refine WF.seq (WF.rp (.inl O) (QF.lss O O O (AA (kp [10,8,7,1,9] O) (WF.seq (WF.if_ O (λG=>?_) (λG=>?_))))))
   ·
    have E:=Av G E
    refine WF.skip (WF.seq (WF.block (WF.seq (WF.rl (LF.q 2 ?_)))))
    have ar:=M.mono' m
    obtain⟨u,Q,E⟩:=bd E
    refine QF.ixe O O ar Pb Q O λbj au=>QF.ld Aa t.1 O au Od (λe=>by cases e) O λbk av=>AE (LF.al R3 O t λbl bm U x=>?_)
    have aw:=av.mono x
    obtain⟨rfl,⟨bn,ax,ay,az,a0⟩⟩:=C9.ex aw
    refine Aj (vs:=[.string u.Name,.int .i64 u.Kind,.int .i64 u.Target,.int .i64 u.Err,.int .i64 u.Drift]) O O O O Od O U .head O λbo j C=>LF.nil (kp [4,8,7,1,9] O) (WF.seq (WF.seq (WF.rc (.inl O) j (QF.fao O Py O (AI Ak j O mh O AN O ?_)))))
    obtain⟨a1,V,E⟩:=bd E
    refine AZ O O O F7 O (λh' o=>A6 (St.all h') ax (iq (n:=0) O) (iq (n:=2) O) V) (QF.not O O (QF.mv O O ?_))
    obtain⟨W,c,E⟩:=bd E
    refine QF.cutv 5 22 (.bool W) ?_ ?_
    ·
     cases X:(!a1)
     ·
      have c:=Aw X c
      refine QF.gy O O O (QF.fao O TT O (QF.gy O O O (AI Ak j O mh O AN O (QF.gy O O O ?_))))
      obtain⟨bp,Y,c⟩:=bd c
      refine AZ O O O F7 O (λh' o=>A6 (St.all h') az (iq (n:=0) O) (iq (n:=1099511627776) O) Y) (QF.gy O O O (QF.not O O (QF.pick O O O ?_)))
      cases c
      exact AH O
     ·
      have c:=Av X c
      cases c
      exact AL O O
    refine QF.mv O O ?_
    obtain⟨a2,d,E⟩:=bd E
    refine QF.cutv 5 28 (.bool a2) ?_ ?_
    ·
     cases Z:W
     ·
      have d:=Aw Z d
      refine QF.gy O O O (QF.fao O TS O (QF.gy O O O (AI Ak j O mh O AN O (QF.gy O O O ?_))))
      obtain⟨bq,ab,d⟩:=bd d
      refine AZ O O O F7 O (λh' o=>A6 (St.all h') a0 (iq (n:=0) O) (iq (n:=1440) O) ab) (QF.gy O O O (QF.not O O (QF.pick O O O ?_)))
      cases d
      exact AH O
     ·
      have d:=Av Z d
      cases d
      exact AL O O
    refine Ai (kp [28,4,8,7,1,9] O) λbr i D=>WF.if_ O (λH=>?_) (λH=>?_)
    ·
     have E:=Av H E
     refine WF.seq (WF.rp (.inl O) (QF.as_ O O (AA (kp [2] O) (WF.ret (λaa ww hf hw=>?_)))))
     have ac:=i.drop .head
     cases E
     have ad:=e5.trans (m.trans (x.trans (C.trans D)))
     exact CS hf hw O O ad ⟨O,ac⟩
    ·
     have E:=Aw H E
     refine WF.skip (WF.seq (WF.rl (LF.q 9 ?_)))
     have ae:=m.trans (x.trans (C.trans D))
     have I:=k6.mono ae
     refine QF.fa O I Ah Bs O λbt a3=>QF.ldl Aa i.1 O a3 EY O λbu a4=>QF.len O a4 Dk O λa5=>QF.fa O I I3 O0 O λbv a6=>QF.ldi Aa i.1 O a6 AN O λa7=>QF.fa O I AJ.f_Links EE O λbw a8=>QF.ldl Aa i.1 O a8 G7 O λbx a9=>QF.len O a9 FT O λba=>U0 (cs:=[.int .i64 (↑b.Places.length:Int),.int .i64 b.Cells,.int .i64 (↑b.Links.length:Int)]) We O O O (AE (LF.al VY O i λbz b0 af ag=>Aj (vs:=[.int .i64 (↑b.Places.length:Int),.int .i64 b.Cells,.int .i64 (↑b.Links.length:Int)]) O O O O Vf O af .head O λb1 k ah=>LF.nil (kp [5,4,8,7,1,9] O) (WF.seq ?_)))
     refine WF.rc (.inr ⟨mo,by kernel_rfl⟩) k (QF.fao O TU O (AI Ak k O (mt mh) O AN O (QF.fao O Py O (AI Ak k O (mt mh) O AN O ?_))))
     obtain⟨bb,y,E⟩:=bd E
     have ai:=Xl y
     refine Wk O O Wc ai.1 ai.2 O (Ux (l:=([(↑b.Places.length:Int),b.Cells,(↑b.Links.length:Int)]:List Int)) (Value.int .i64) Ak k O mh O y AN O ?_)
     have bc:AB bb:=Xk (p:=λz=>AB z) (all_cons (IJ a5) (all_cons a7 (all_cons (IJ ba) Uu))) y
     obtain⟨b2,aj,E⟩:=bd E
     refine AZ O O O Nr O (λh' o=>Em (St.all h') ay bc aj) (QF.not O O (Ai (kp [45,8,7,1,9] O) λb3 F ak=>WF.if_ O (λJ=>?_) (λJ=>?_)))
     ·
      have E:=Av J E
      refine WF.seq (WF.rp (.inl O) (QF.as_ O O (AA (kp [2] O) (WF.ret (λaa ww hf hw=>?_)))))
      have am:=F.sel [] 2 O
      cases E
      have an:=e5.trans (m.trans (x.trans (C.trans (D.trans (ag.trans (ah.trans ak))))))
      exact CS hf hw O O an ⟨O,am⟩
     ·
      have E:=Aw J E
      refine WF.skip (Al (WF.rp (.inl O) (QF.addw O O O (QF.mv O O (AA (kp [9,8,7,1] O) (WF.nil (λaa ww hf hw=>?_)))))))
      have ao:=F.sel [] 2 O
      have ap:=m.trans (x.trans (C.trans (D.trans (ag.trans (ah.trans ak)))))
      exact⟨(Ar (s+1)),_,_,hf.sub (kp [8,7,1,9] O),hw,ao,ap,(Au _),E⟩
   ·
    have E:=Aw G E
    refine WF.exit O (λaa ww hf hw=>?_)
    exact⟨_,_,hf.sub KI,hw,t,m,E⟩
 ·
  rintro aa ww ⟨b4,b5,hf,hw,aq,be,E⟩
  refine WF.run ?_ hf hw
  clear hf hw ww aa
  rw[Cz] at E
  refine WF.seq (WF.rp (.inl O) (QF.as_ O O (AA (kp [2] O) (WF.ret (λaa ww hf hw=>?_)))))
  cases E
  exact CS hf hw O O (e5.trans be) ⟨O,aq⟩
end Go.Proofs.YtibidnaedddfdaaGreat
