import Derived.Test.YtibidnaedddfdaaGreatCWalk4
namespace Go.Proofs.YtibidnaedddfdaaGreat
open Go.RowKit
set_option linter.unusedVariables false
set_option linter.unusedSimpArgs false
set_option maxRecDepth 10000
set_option maxHeartbeats 2000000
variable {N:Nat}{S:Nat→Prop}{L:List HP}{h:AX}
theorem Jt (hs:St S L h) {U:Value}{j:AJ}(a9:Rd S h BV U j) {r:Bool}(E:C1 N j=some r):
 Bf Tryz.prog 41 #[U] S h (λv S' h'=>v= .bool r∧St S' (L) h'):=by
 refine Ab (l:=[U]) 128 Tryz.func41 O Tryz.ntmps41 O λB=>?_
 rw[C1] at E
 refine WF.seq (WF.rl (LF.boxp O a9 (λe=>by cases e) O hs λq1 S2 h3 d8 e5 k6=>LF.q 1 (QF.as_ O O (AG (LF.nil (kp [1] O) (WF.seq (WF.rl (LF.q 3 (QF.fa O k6 A4 DW O λq7 k8=>QF.ldl Af d8.1 O k8 Ff O λv9 gl=>QF.len O gl E5 O λkg=>AG ?_)))))))))
 obtain⟨d9,E⟩:=Q0 E
 refine LF.mke (r:=AV.int) (zx:=0) US O ⟨O,by unfold AB;omega⟩ O O d9 O O d8 λk b0 bf b1=>LF.q 1 (QF.as_ O O (AG (LF.nil (kp [3,1] O) (WF.seq (WF.seq (WF.rp (.inl O) ?_))))))
 have ea:=k6.mono b1
 refine QF.fa O ea A4 DW O λkh gm=>QF.ldl Af bf.1 O gm Ff O λgp eb=>QF.len O eb E5 O λki=>QF.mv O O (AA (kp [17,16,15,3,1] O) (WF.blockJ (λa w=>∃(ba:List Int),IV B S2 b0 (128,[]) a w [(3,k),(1,q1)] (OS AV.int 3 k ba::L) λ_ _=>A6 N j ba=some r) ?_ ?_))
 ·
  refine WF.loopF (λn1=>λa w=>∃(W:Int) (ag:List Int),IV B S2 b0 (128,[]) a w [(16,.int .i64 (↑j.Places.length:Int)),(15,gp),(3,k),(1,q1),(17,.int .i64 W)] (OS AV.int 3 k ag::L) λ_ _=>AB W∧BI N j (A6 N j) n1 W ag=some r) N ?_ ?_ ?_
  ·
   intro aa ww hf hw
   exact⟨0,(List.replicate ((↑j.Places.length:Int):Int).toNat 0),_,_,hf.sub (kp [16,15,3,1,17] O),hw,bf,(Bc.refl S2 b0),(iq (n:=0) O),E⟩
  ·
   rintro aa ww ⟨_,_,_,_,_,_,_,_,_,E⟩
   rw[BI] at E;cases E
  ·
   rintro n1 aa ww ⟨W,ag,kj,kk,hf,hw,ai,b2,kl,E⟩
   refine WF.run ?_ hf hw
   clear hf hw ww aa
   rw[BI] at E
   refine WF.seq (WF.rp (.inl O) (QF.lss O O O (AA (kp [18,16,15,3,1,17] O) (WF.seq (WF.if_ O (λb3=>?_) (λb3=>?_))))))
   ·
    have E:=A0 b3 E
    refine WF.skip (WF.seq (WF.block (WF.seq (WF.rl (LF.q 3 (QF.mv O O ?_))))))
    have gq:=eb.mono' b2
    obtain⟨u,ec,E⟩:=bd E
    refine QF.ixe O O gq E5 ec O λkm gr=>QF.ld Af ai.1 O gr Im (λe=>by cases e) O λkn gs=>AG (LF.al OB O ai λko kq ed ee=>LF.q 1 (QF.as_ O O (AG ?_)))
    have gu:=gs.mono ee
    obtain⟨ef,eg,eh,rfl,kr,ks,kt,ku,gv,gw,gx,gz,kv,kw,kx,g0⟩:=BO.ex gu
    refine LF.st (vs:=[.string u.Name,.int .i64 u.Kind,.int .i64 u.Office,.int .i64 u.Cap,ef,eg,.int .i64 u.Num,.int .i64 u.Den,.int .i64 u.Down,.int .i64 u.Delay,.int .i64 u.Floor,eh]) (cs':=[.string u.Name,.int .i64 u.Kind,.int .i64 u.Office,.int .i64 u.Cap,ef,eg,.int .i64 u.Num,.int .i64 u.Den,.int .i64 u.Down,.int .i64 u.Delay,.int .i64 u.Floor,eh]) O O O (AC O (AC O (AC O (AC O (AC gv.one (AC gw.one (AC O (AC O (AC O (AC O (AC O (AC g0.one Eo)))))))))))) Im O ed .head O O λky aj g1=>LF.nil (kp [4,5,16,15,3,1,17] O) (WF.rl (LF.q 6 (QF.mv O O (QF.mv O O (QF.fao O O3 O (AI Af aj O mh O AL O (QF.fao O Ip O (AI Af aj O mh O AL O (AG ?_)))))))))
    obtain⟨ei,ej,E⟩:=bd E
    refine LF.callb O O O OW O aj (FK (St.all _) gx gz ej) λkz k0 k1 bg g2 k2 p=>?_
    obtain⟨rfl,g3,hc⟩:=p
    refine LF.q 1 ?_
    obtain⟨k3,ek,E⟩:=bd E
    refine QF.ixoe bg (mt mh) O O F9 ek O λk4 el=>AG ?_
    obtain⟨g4,em,E⟩:=bd E
    refine LF.ste (r:=AV.int) (l:=ag) (i:=W) (x:=g4) O O (⟨_,O,O,g3⟩:Rd _ _ AV.int _ ei) el em MA.id AL (λ_=>rfl) bg (.tail .head) λk5 en g5=>LF.nil (kp [16,15,3,1,17] O) (Ap (WF.rp (.inl O) (QF.addw O O O (QF.mv O O (AA (kp [17,16,15,3,1] O) (WF.nil (λaa ww hf hw=>?_)))))))
    have eo:=en.sel [1] 1 O
    have ep:=b2.trans (ee.trans (g1.trans (g2.trans g5)))
    exact⟨(Aw (W+1)),(upd ag W ei),_,_,hf.sub (kp [16,15,3,1,17] O),hw,eo,ep,(BA _),E⟩
   ·
    have E:=A3 b3 E
    refine WF.exit O (λaa ww hf hw=>?_)
    exact⟨ag,_,_,hf.sub (kp [3,1] O),hw,ai,b2,E⟩
 ·
  rintro aa ww ⟨ba,b4,b5,hf,hw,bh,b6,E⟩
  refine WF.run ?_ hf hw
  clear hf hw ww aa
  rw[A6] at E
  refine WF.seq (WF.seq (WF.rp (.inl O) ?_))
  have g6:=ea.mono b6
  refine QF.fa O g6 AJ.f_Links FP O λk7 g7=>QF.ldl Af bh.1 O g7 Ho O λak eq=>QF.len O eq GO O λk9=>QF.mv O O (AA (kp [34,33,32,3] O) (WF.blockJ (λa w=>∃(ah:List Int),IV B b4 b5 (128,[]) a w [(3,k)] (OS AV.int 3 k ah::L) λ_ _=>Au N ah=some r) ?_ ?_))
  ·
   refine WF.loopF (λn3=>λa w=>∃(H:Int) (y:List Int),IV B b4 b5 (128,[]) a w [(33,.int .i64 (↑j.Links.length:Int)),(32,ak),(3,k),(34,.int .i64 H)] (OS AV.int 3 k y::L) λ_ _=>AB H∧AY N j (Au N) n3 H y=some r) N ?_ ?_ ?_
   ·
    intro aa ww hf hw
    exact⟨0,ba,_,_,hf.sub (kp [33,32,3,34] O),hw,bh,(Bc.refl b4 b5),(iq (n:=0) O),E⟩
   ·
    rintro aa ww ⟨_,_,_,_,_,_,_,_,_,E⟩
    rw[AY] at E;cases E
   ·
    rintro n3 aa ww ⟨H,y,s,er,hf,hw,X,am,la,E⟩
    refine WF.run ?_ hf hw
    clear hf hw ww aa
    rw[AY] at E
    refine WF.seq (WF.rp (.inl O) (QF.lss O O O (AA (kp [35,33,32,3,34] O) (WF.seq (WF.if_ O (λan=>?_) (λan=>?_))))))
    ·
     have E:=A0 an E
     refine WF.skip (WF.seq (WF.blockJ (λa w=>∃(Y:List Int),IV B s er (128,[]) a w [(33,.int .i64 (↑j.Links.length:Int)),(32,ak),(3,k),(34,.int .i64 H)] (OS AV.int 3 k Y::L) λ_ _=>Ar N H (AY N j (Au N) n3) Y=some r) ?_ ?_))
     ·
      refine WF.seq (WF.rl (LF.q 2 ?_))
      have es:=eq.mono' am
      obtain⟨c,b7,E⟩:=bd E
      refine QF.ixe O O es GO b7 O λhd et=>QF.ld Af X.1 O et Du (λe=>by cases e) O λhe eu=>AG (LF.al K8 O X λz hg b8 J=>?_)
      have ev:=eu.mono J
      obtain⟨Z,ab,ac,rfl,hi,hj,ew,hk,bi,bj,bk,hl,hm,hn,ho,bl,bm,hp,hq,bn,bo,ht⟩:=A9.ex ev
      refine LF.st (vs:=[.string c.Name,.int .i64 c.Kind,.int .i64 c.From,.int .i64 c.To,Z,ab,ac,.int .i64 c.Positions,.int .i64 c.Speed,.int .i64 c.Leak,.int .i64 c.Crest,.int .i64 c.Num,.int .i64 c.Den,.int .i64 c.Prime,.int .i64 c.Break,.int .i64 c.BackNum,.int .i64 c.BackDen,.int .i64 c.Delay]) (cs':=[.string c.Name,.int .i64 c.Kind,.int .i64 c.From,.int .i64 c.To,Z,ab,ac,.int .i64 c.Positions,.int .i64 c.Speed,.int .i64 c.Leak,.int .i64 c.Crest,.int .i64 c.Num,.int .i64 c.Den,.int .i64 c.Prime,.int .i64 c.Break,.int .i64 c.BackNum,.int .i64 c.BackDen,.int .i64 c.Delay]) O O O (AC O (AC O (AC O (AC O (AC bi.one (AC bj.one (AC bk.one (AC O (AC O (AC O (AC O (AC O (AC O (AC O (AC O (AC O (AC O (AC O Eo)))))))))))))))))) Du O b8 .head O O λC d D=>LF.nil (kp [7,33,32,3,34] O) (WF.seq (WF.rp (.inl O) (QF.fao O Do O (AI Af d O mh O AL O (AA (kp [39,7,33,32,3,34] O) (WF.block (WF.seq (WF.rp (.inl O) (QF.eql O O O (QF.as_ O O (AA (kp [40,39,7,33,32,3,34] O) (WF.if_ O (λao=>?_) (λao=>?_)))))))))))))
      ·
       have E:=A0 ao E
       refine WF.seq ?_
       obtain⟨hu,b9,E⟩:=bd E
       obtain⟨F,ca,E⟩:=bd E
       obtain⟨G,cb,E⟩:=bd E
       obtain⟨hv,cc,E⟩:=bd E
       refine QQ (m:=[(7,.pointer (some ⟨z,0,none⟩)),(33,.int .i64 (↑j.Links.length:Int)),(32,ak),(3,k),(34,.int .i64 H)]) 17 (λi v hh=>match i with|0=>v=k|1=>v= .pointer (some ⟨z,2,none⟩)|2=>v= .int .i64 c.From∧AB c.From|3=>EP k (c.From.toNat*(AV.int).sz+0) v|4=>v= .int .i64 F∧AB F|5=>v= .pointer (some ⟨z,4,none⟩)|6=>Sl s hh BB v c.Rate|7=>v= .pointer (some ⟨z,5,none⟩)|8=>v= .pointer (some ⟨z,5,none⟩)|9=>Sl s hh BB v c.Band.Lo|10=>v= .pointer (some ⟨z,5,none⟩)|11=>v= .pointer (some ⟨z,6,none⟩)|12=>Sl s hh BB v c.Band.Hi|13=>Sl (SN s C hh) hh (AV.sl BB) v ([c.Rate,c.Band.Lo,c.Band.Hi]:List (List AU))∧∃ad,v= .slice (some ad) 3 3|14=>v= .int .i64 G∧AB G|15=>v= .int .i64 (Aw (F+G))∧AB (Aw (F+G))|16=>EP k (c.From.toNat*(AV.int).sz+0) v|_=>False) [[],[],[(1,43)],[(0,42),(2,44)],[(3,45)],[],[(5,47)],[],[(7,49)],[(8,50)],[],[(10,52)],[(11,53)],[(6,48),(9,51),(12,54)],[(13,55)],[(4,46),(14,56)],[(0,42),(2,44)]] [(15,57),(16,58)] mo (by kernel_rfl) [7,33,32,3,34] O (by kernel_rfl) (by kernel_rfl) (by kernel_rfl) (kp [7,33,32,3,34] O) (λi v h1 h2 o1 o2 hr=>?_) ?_ ?_
       ·match i,hr with
         |0,hr=>exact hr
         |1,hr=>exact hr
         |2,hr=>exact hr
         |3,hr=>exact hr
         |4,hr=>exact hr
         |5,hr=>exact hr
         |6,hr=>exact Sl.mono' hr (o2.ext λb hb=>Nat.lt_of_lt_of_le (d.1 b hb) o1.siz)
         |7,hr=>exact hr
         |8,hr=>exact hr
         |9,hr=>exact Sl.mono' hr (o2.ext λb hb=>Nat.lt_of_lt_of_le (d.1 b hb) o1.siz)
         |10,hr=>exact hr
         |11,hr=>exact hr
         |12,hr=>exact Sl.mono' hr (o2.ext λb hb=>Nat.lt_of_lt_of_le (d.1 b hb) o1.siz)
         |13,hr=>exact⟨Sl.mono' hr.1 (SN.mono d.1 o1 o2),hr.2⟩
         |14,hr=>exact hr
         |15,hr=>exact hr
         |16,hr=>exact hr
         |_+17,hr=>exact hr.elim
       ·
        refine CG.cons O ?_ ?_
        ·
         intro mq hh o
         have hsN:=o.st d
         exact LF.q 1 (QF.mv O O (AG (AM (BX.refl _) O)))
        refine CG.cons O ?_ ?_
        ·
         intro mq hh o
         have hsN:=o.st d
         exact LF.q 1 (QF.fao O GV O (AG (AM (BX.refl _) O)))
        refine CG.cons O ?_ ?_
        ·
         intro mq hh o
         intro hx ey
         have hsN:=o.st d
         cases ey
         exact LF.q 1 (AI Af hsN O mh O AL O (AG (AM (BX.refl _) ⟨O,ew⟩)))
        refine CG.cons O ?_ ?_
        ·
         intro mq hh o
         intro hy ez hz e0
         have hsN:=o.st d
         cases ez
         obtain⟨rfl,h0⟩:=e0
         exact LF.q 1 (QF.ixoe hsN (mt mh) O O F9 b9 O λh4 cd=>AG (AM (BX.refl _) cd))
        refine CG.cons O ?_ ?_
        ·
         intro mq hh o
         intro h5 e1
         have hsN:=o.st d
         refine LF.q 1 ?_
         have e2:=hsN.epAt (mt mh) ca EO.id e1
         exact QF.ldi Af (λ_ x=>x) O e2 AL O λe3=>AG (AM (BX.refl _) ⟨O,e3⟩)
        refine CG.cons O ?_ ?_
        ·
         intro mq hh o
         have hsN:=o.st d
         exact LF.q 1 (QF.fao O KD O (AG (AM (BX.refl _) O)))
        refine CG.cons O ?_ ?_
        ·
         intro mq hh o
         intro h6 e4
         have hsN:=o.st d
         cases e4
         refine LF.q 1 (AI Af hsN O mh O GN O (AG ?_))
         have e6:=bi.mono' (D.trans (o.ext d.1))
         exact AM (BX.refl _) e6
        refine CG.cons O ?_ ?_
        ·
         intro mq hh o
         have hsN:=o.st d
         exact LF.q 1 (QF.fao O Gq O (AG (AM (BX.refl _) O)))
        refine CG.cons O ?_ ?_
        ·
         intro mq hh o
         intro h7 e7
         have hsN:=o.st d
         cases e7
         exact LF.q 1 (QF.fao O KF O (AG (AM (BX.refl _) O)))
        refine CG.cons O ?_ ?_
        ·
         intro mq hh o
         intro h8 e8
         have hsN:=o.st d
         cases e8
         refine LF.q 1 (AI Af hsN O mh O GN O (AG ?_))
         have e9:=bj.mono' (D.trans (o.ext d.1))
         exact AM (BX.refl _) e9
        refine CG.cons O ?_ ?_
        ·
         intro mq hh o
         have hsN:=o.st d
         exact LF.q 1 (QF.fao O Gq O (AG (AM (BX.refl _) O)))
        refine CG.cons O ?_ ?_
        ·
         intro mq hh o
         intro h9 fb
         have hsN:=o.st d
         cases fb
         exact LF.q 1 (QF.fao O KE O (AG (AM (BX.refl _) O)))
        refine CG.cons O ?_ ?_
        ·
         intro mq hh o
         intro ia fc
         have hsN:=o.st d
         cases fc
         refine LF.q 1 (AI Af hsN O mh O GN O (AG ?_))
         have fd:=bk.mono' (D.trans (o.ext d.1))
         exact AM (BX.refl _) fd
        refine CG.cons O ?_ ?_
        ·
         intro mq hh o
         intro fe K ff M fg Q
         have hsN:=SN.st d o
         have K:=Sl.mono' (S':=(SN s C hh)) K ⟨λb hb=> .inl hb,λ_ _=>rfl,Nat.le_refl _⟩
         have K:Sl _ _ BB fe c.Rate:=K
         have M:=Sl.mono' (S':=(SN s C hh)) M ⟨λb hb=> .inl hb,λ_ _=>rfl,Nat.le_refl _⟩
         have M:Sl _ _ BB ff c.Band.Lo:=M
         have Q:=Sl.mono' (S':=(SN s C hh)) Q ⟨λb hb=> .inl hb,λ_ _=>rfl,Nat.le_refl _⟩
         have Q:Sl _ _ BB fg c.Band.Hi:=Q
         have hsF:=hsN.fz
         obtain⟨ce,bb,rfl,ib⟩:=(K).len
         obtain⟨cf,bc,rfl,ic⟩:=(M).len
         obtain⟨cg,be,rfl,ie⟩:=(Q).len
         refine Hd (cs:=[(.slice ce c.Rate.length bb),(.slice cf c.Band.Lo.length bc),(.slice cg c.Band.Hi.length be)]) XV O O O O O O O hsF λig ih ch ae=>?_
         have fh:=Q.mono' ae
         have fi:=M.mono' ae
         have fj:=K.mono' ae
         have ci:=ch.bxos (r:=(AV.sl BB)) (l:=([c.Rate,c.Band.Lo,c.Band.Hi]:List (List AU))) .head ⟨_,_,O,⟨_,O,fj⟩,⟨_,_,O,⟨_,O,fi⟩,⟨_,_,O,⟨_,O,fh⟩,O⟩⟩⟩ (by simp [maxLen])
         obtain⟨ii,cj,fk,fl⟩:=ci.pubs .head
         have ap:=Fz.done o (ae.trans fk) cj
         exact AM ap.1 ⟨Sl.mono' fl ap.2,_,O⟩
        refine CG.cons O ?_ ?_
        ·
         intro mq hh o
         intro ij aq
         have hsN:=SN.st d o
         obtain⟨aq,g8,rfl⟩:=aq
         refine LF.callb O O O ZI O hsN (LP (St.all _) (aq.mono (λb hb=>hsN.1 b hb) (λ_ _=>rfl)) cb) λik il im g9 io bp p=>?_
         obtain⟨rfl,fm,ha⟩:=p
         exact AM ⟨bp.siz,λb hb=>bp.same b hb⟩ ⟨O,fm⟩
        refine CG.cons O ?_ ?_
        ·
         intro mq hh o
         intro ip fn ir fo
         have hsN:=o.st d
         obtain⟨rfl,it⟩:=fn
         obtain⟨rfl,iu⟩:=fo
         exact LF.q 1 (QF.addw O O O (AG (AM (BX.refl _) ⟨O,(BA _)⟩)))
        refine CG.cons O ?_ ?_
        ·
         intro mq hh o
         intro iv fp iw fq
         have hsN:=o.st d
         cases fp
         obtain⟨rfl,iy⟩:=fq
         exact LF.q 1 (QF.ixoe hsN (mt mh) O O F9 cc O λiz ck=>AG (AM (BX.refl _) ck))
        exact trivial
       intro i0 ar i1 fr i2 fs
       have cl:=SN.st d ar
       obtain⟨rfl,ft⟩:=fr
       obtain⟨fu,cm,E⟩:=bd E
       refine LF.ste (r:=AV.int) (l:=y) (i:=c.From) (x:=fu) O O (⟨_,O,O,ft⟩:Rd _ _ AV.int _ (Aw (F+G))) fs cm MA.id AL (λ_=>rfl) cl (.tail .head) λi3 t bq=>LF.nil (kp [7,33,32,3,34] O) (WF.seq (WF.rp (.inl O) (QF.fao O E6 O (AI Af t O mh O AL O (QF.neq O O O (AA (kp [61,7,33,32,3,34] O) (WF.if_ O (λau=>?_) (λau=>?_))))))))
       ·
        have E:=A0 au E
        refine Ed 12 mo (by kernel_rfl) O t (QF.mv O O (QF.fao O E6 O (AI Ai t O mh O AL O ?_)))
        obtain⟨i4,cn,E⟩:=bd E
        refine QF.ixoe t (mt mh) O O F9 cn O λi5 co=>?_
        obtain⟨br,cp,E⟩:=bd E
        have fv:=t.epAt (mt mh) cp EO.id co
        refine QF.ldi Ai (λ_ x=>x) O fv AL O λi6=>QF.fao O HX O (AI Ai t O mh O AL O (QF.fao O G9 O (AI Ai t O mh O AL O ?_)))
        obtain⟨bt,cq,E⟩:=bd E
        refine Ao O O O OW O (λh' o=>FK (St.all h') bn bo cq) λfw=>?_
        have i7:=fw
        refine QF.addw O O O ?_
        obtain⟨i8,cr,E⟩:=bd E
        refine QF.ixoe t (mt mh) O O F9 cr O λi9 ct=>Dj λja cu fx=>?_
        obtain⟨fy,cv,E⟩:=bd E
        refine LF.ste (r:=AV.int) (l:=(upd y c.From (Aw (F+G)))) (i:=c.To) (x:=fy) O O (⟨_,O,O,(BA _)⟩:Rd _ _ AV.int _ (Aw (br+bt))) ct cv MA.id AL (λ_=>rfl) cu (.tail .head) λjb cw f0=>LF.nil (kp [33,32,3,34] O) (Ap (WF.nil (λaa ww hf hw=>?_)))
        have cx:=cw.sel [1] 1 O
        have cy:=J.trans (D.trans ((SN.ext d.1 ar).trans (bq.trans (fx.trans f0))))
        exact⟨(upd (upd y c.From (Aw (F+G))) c.To (Aw (br+bt))),_,_,hf.sub (kp [33,32,3,34] O),hw,cx,cy,E⟩
       ·
        have E:=A3 au E
        refine WF.skip (Ap (WF.nil (λaa ww hf hw=>?_)))
        have cz:=t.sel [1] 1 O
        have c0:=J.trans (D.trans ((SN.ext d.1 ar).trans bq))
        exact⟨(upd y c.From (Aw (F+G))),_,_,hf.sub (kp [33,32,3,34] O),hw,cz,c0,E⟩
      ·
       have E:=A3 ao E
       refine WF.seq (WF.seq (WF.rp (.inl O) (QF.eql O O O (QF.as_ O O (AA (kp [74,39,7,33,32,3,34] O) (WF.cut (λa w=>∃(av:Bool),IV B s C (128,[]) a w [(39,.int .i64 c.Kind),(7,.pointer (some ⟨z,0,none⟩)),(33,.int .i64 (↑j.Links.length:Int)),(32,ak),(3,k),(34,.int .i64 H),(74,.bool av)] (Bx z 102 [.string c.Name,.int .i64 c.Kind,.int .i64 c.From,.int .i64 c.To,Z,ab,ac,.int .i64 c.Positions,.int .i64 c.Speed,.int .i64 c.Leak,.int .i64 c.Crest,.int .i64 c.Num,.int .i64 c.Den,.int .i64 c.Prime,.int .i64 c.Break,.int .i64 c.BackNum,.int .i64 c.BackDen,.int .i64 c.Delay]::OS AV.int 3 k y::L) λ_ _=>Bh N y c (Ar N H (AY N j (Au N) n3)) av=some r) ?_ ?_))))))
       ·
        refine WF.if_ O (λaw=>?_) (λaw=>?_)
        ·
         have E:=A0 aw E
         refine WF.skip (WF.nil (λaa ww hf hw=>?_))
         exact⟨(decide (c.Kind=1)),_,_,hf.sub (kp [39,7,33,32,3,34,74] O),hw,d,(Bc.refl s C),E⟩
        ·
         have E:=A3 aw E
         refine WF.seq (WF.rp (.inl O) (QF.eql O O O (QF.as_ O O (AA (kp [74,39,7,33,32,3,34] O) (WF.cut (λa w=>∃(af:Bool),IV B s C (128,[]) a w [(39,.int .i64 c.Kind),(7,.pointer (some ⟨z,0,none⟩)),(33,.int .i64 (↑j.Links.length:Int)),(32,ak),(3,k),(34,.int .i64 H),(74,.bool af)] (Bx z 102 [.string c.Name,.int .i64 c.Kind,.int .i64 c.From,.int .i64 c.To,Z,ab,ac,.int .i64 c.Positions,.int .i64 c.Speed,.int .i64 c.Leak,.int .i64 c.Crest,.int .i64 c.Num,.int .i64 c.Den,.int .i64 c.Prime,.int .i64 c.Break,.int .i64 c.BackNum,.int .i64 c.BackDen,.int .i64 c.Delay]::OS AV.int 3 k y::L) λ_ _=>Es N (Bh N y c (Ar N H (AY N j (Au N) n3))) af=some r) ?_ ?_)))))
         ·
          refine WF.if_ O (λax=>?_) (λax=>?_)
          ·
           have E:=A0 ax E
           refine WF.skip (WF.nil (λaa ww hf hw=>?_))
           exact⟨(decide (c.Kind=5)),_,_,hf.sub (kp [39,7,33,32,3,34,74] O),hw,d,(Bc.refl s C),E⟩
          ·
           have E:=A3 ax E
           refine WF.rp (.inl O) (QF.eql O O O (QF.as_ O O (AA (kp [74,39,7,33,32,3,34] O) (WF.nil (λaa ww hf hw=>?_)))))
           exact⟨(decide (c.Kind=3)),_,_,hf.sub (kp [39,7,33,32,3,34,74] O),hw,d,(Bc.refl s C),E⟩
         ·
          rintro aa ww ⟨af,jc,jd,hf,hw,c1,f1,E⟩
          refine WF.run ?_ hf hw
          clear hf hw ww aa
          rw[Es] at E
          refine WF.nil (λaa ww hf hw=>?_)
          exact⟨af,_,_,hf.sub (kp [39,7,33,32,3,34,74] O),hw,c1,f1,E⟩
       ·
        rintro aa ww ⟨av,je,jf,hf,hw,g,ay,E⟩
        refine WF.run ?_ hf hw
        clear hf hw ww aa
        rw[Bh] at E
        refine WF.if_ O (λaz=>?_) (λaz=>?_)
        ·
         have E:=A0 az E
         refine Ed 12 mo (by kernel_rfl) O g (QF.mv O O (QF.fao O GV O (AI Ai g O mh O AL O ?_)))
         obtain⟨jg,c2,E⟩:=bd E
         refine QF.ixoe g (mt mh) O O F9 c2 O λjh c3=>?_
         obtain⟨bu,c4,E⟩:=bd E
         have f2:=g.epAt (mt mh) c4 EO.id c3
         refine QF.ldi Ai (λ_ x=>x) O f2 AL O λji=>QF.fao O Fm O (AI Ai g O mh O AL O (QF.fao O Gh O (AI Ai g O mh O AL O ?_)))
         obtain⟨bv,c5,E⟩:=bd E
         refine Ao O O O OW O (λh' o=>FK (St.all h') bl bm c5) λf3=>?_
         have jj:=f3
         refine QF.addw O O O ?_
         obtain⟨jk,c6,E⟩:=bd E
         refine QF.ixoe g (mt mh) O O F9 c6 O λjl c7=>Dj λjm c8 f4=>?_
         obtain⟨f5,c9,E⟩:=bd E
         refine LF.ste (r:=AV.int) (l:=y) (i:=c.From) (x:=f5) O O (⟨_,O,O,(BA _)⟩:Rd _ _ AV.int _ (Aw (bu+bv))) c7 c9 MA.id AL (λ_=>rfl) c8 (.tail .head) λjn da f6=>LF.nil (kp [33,32,3,34] O) (Ap (WF.nil (λaa ww hf hw=>?_)))
         have db:=da.sel [1] 1 O
         have dc:=J.trans (D.trans (ay.trans (f4.trans f6)))
         exact⟨(upd y c.From (Aw (bu+bv))),_,_,hf.sub (kp [33,32,3,34] O),hw,db,dc,E⟩
        ·
         have E:=A3 az E
         refine WF.seq (WF.rp (.inl O) (QF.eql O O O (QF.as_ O O (AA (kp [90,7,33,32,3,34] O) (WF.if_ O (λa0=>?_) (λa0=>?_))))))
         ·
          have E:=A0 a0 E
          refine WF.seq (Ed 13 mo (by kernel_rfl) O g (QF.mv O O (QF.fao O GV O (AI Ai g O mh O AL O ?_))))
          obtain⟨jo,dd,E⟩:=bd E
          refine QF.ixoe g (mt mh) O O F9 dd O λjp de=>?_
          obtain⟨a1,df,E⟩:=bd E
          have f7:=g.epAt (mt mh) df EO.id de
          refine QF.ldi Ai (λ_ x=>x) O f7 AL O λjq=>QF.fao O Fm O (AI Ai g O mh O AL O (QF.fao O Gh O (AI Ai g O mh O AL O ?_)))
          obtain⟨a2,dg,E⟩:=bd E
          refine Ao O O O OW O (λh' o=>FK (St.all h') bl bm dg) λf8=>?_
          have jr:=f8
          refine QF.mulw O O O (QF.addw O O O ?_)
          obtain⟨js,dh,E⟩:=bd E
          refine QF.ixoe g (mt mh) O O F9 dh O λjt di=>Dj λju dj f9=>?_
          obtain⟨ga,dk,E⟩:=bd E
          refine LF.ste (r:=AV.int) (l:=y) (i:=c.From) (x:=ga) O O (⟨_,O,O,(BA _)⟩:Rd _ _ AV.int _ (Aw (a1+(Aw (2*a2))))) di dk MA.id AL (λ_=>rfl) dj (.tail .head) λjv A gb=>LF.nil (kp [7,33,32,3,34] O) (Ed 13 mo (by kernel_rfl) O A (QF.mv O O (QF.fao O E6 O (AI Ai A O mh O AL O ?_))))
          obtain⟨jw,dl,E⟩:=bd E
          refine QF.ixoe A (mt mh) O O F9 dl O λjx dm=>?_
          obtain⟨bw,dn,E⟩:=bd E
          have gc:=A.epAt (mt mh) dn EO.id dm
          refine QF.ldi Ai (λ_ x=>x) O gc AL O λjy=>QF.fao O HX O (AI Ai A O mh O AL O (QF.fao O G9 O (AI Ai A O mh O AL O ?_)))
          obtain⟨bx,dp,E⟩:=bd E
          refine Ao O O O OW O (λh' o=>FK (St.all h') bn bo dp) λge=>?_
          have jz:=ge
          refine QF.mulw O O O (QF.addw O O O ?_)
          obtain⟨j0,dq,E⟩:=bd E
          refine QF.ixoe A (mt mh) O O F9 dq O λj1 dr=>Dj λj2 ds gf=>?_
          obtain⟨gg,dt,E⟩:=bd E
          refine LF.ste (r:=AV.int) (l:=(upd y c.From (Aw (a1+(Aw (2*a2)))))) (i:=c.To) (x:=gg) O O (⟨_,O,O,(BA _)⟩:Rd _ _ AV.int _ (Aw (bw+(Aw (2*bx))))) dr dt MA.id AL (λ_=>rfl) ds (.tail .head) λj3 du gh=>LF.nil (kp [33,32,3,34] O) (Ap (WF.nil (λaa ww hf hw=>?_)))
          have dv:=du.sel [1] 1 O
          have dw:=J.trans (D.trans (ay.trans (f9.trans (gb.trans (gf.trans gh)))))
          exact⟨(upd (upd y c.From (Aw (a1+(Aw (2*a2))))) c.To (Aw (bw+(Aw (2*bx))))),_,_,hf.sub (kp [33,32,3,34] O),hw,dv,dw,E⟩
         ·
          have E:=A3 a0 E
          refine WF.skip (Ap (WF.nil (λaa ww hf hw=>?_)))
          have dx:=g.sel [1] 1 O
          have dy:=J.trans (D.trans ay)
          exact⟨y,_,_,hf.sub (kp [33,32,3,34] O),hw,dx,dy,E⟩
     ·
      rintro aa ww ⟨Y,j4,j5,hf,hw,dz,gi,E⟩
      refine WF.run ?_ hf hw
      clear hf hw ww aa
      rw[Ar] at E
      refine WF.rp (.inl O) (QF.addw O O O (QF.mv O O (AA (kp [34,33,32,3] O) (WF.nil (λaa ww hf hw=>?_)))))
      exact⟨(Aw (H+1)),Y,_,_,hf.sub (kp [33,32,3,34] O),hw,dz,(am.trans gi),(BA _),E⟩
    ·
     have E:=A3 an E
     refine WF.exit O (λaa ww hf hw=>?_)
     exact⟨y,_,_,hf.sub (kp [3] O),hw,X,am,E⟩
  ·
   rintro aa ww ⟨ah,a3,a4,hf,hw,a5,bz,E⟩
   refine WF.run ?_ hf hw
   clear hf hw ww aa
   rw[Au] at E
   refine WF.seq (WF.seq (WF.rp (.inl O) (QF.mv O O (QF.leno a5 mh O F9 O λj6=>QF.mv O O (AA (kp [121,120,119] O) (WF.blockJ (λa w=>IV B a3 a4 (128,[]) a w [] (L) λ_ _=>Bo N=some r) ?_ ?_))))))
   ·
    refine WF.loopF (λn8=>λa w=>∃(V:Int),IV B a3 a4 (128,[]) a w [(120,.int .i64 (↑ah.length:Int)),(119,k),(121,.int .i64 V)] (OS AV.int 3 k ah::L) λ_ _=>AB V∧BH N ah (Bo N) n8 V=some r) N ?_ ?_ ?_
    ·
     intro aa ww hf hw
     exact⟨0,_,_,hf.sub (kp [120,119,121] O),hw,a5,(Bc.refl a3 a4),(iq (n:=0) O),E⟩
    ·
     rintro aa ww ⟨_,_,_,_,_,_,_,_,E⟩
     rw[BH] at E;cases E
    ·
     rintro n8 aa ww ⟨V,j7,j8,hf,hw,I,a6,j9,E⟩
     refine WF.run ?_ hf hw
     clear hf hw ww aa
     rw[BH] at E
     refine WF.seq (WF.rp (.inl O) (QF.lss O O O (AA (kp [122,120,119,121] O) (WF.seq (WF.if_ O (λa7=>?_) (λa7=>?_))))))
     ·
      have E:=A0 a7 E
      refine WF.skip (WF.seq (WF.block (WF.seq (WF.rp (.inl O) ?_))))
      obtain⟨ka,d0,E⟩:=bd E
      refine QF.ixoe I mh O O F9 d0 O λkb d1=>?_
      obtain⟨kc,d2,E⟩:=bd E
      have gj:=I.epAt mh d2 EO.id d1
      refine QF.ldi Af (λ_ x=>x) O gj AL O λkd=>QF.as_ O O (AA (kp [9,120,119,121] O) (WF.seq (WF.rp (.inl O) (QF.mv O O (QF.gtr O O O (AA (kp [126,120,119,121] O) (WF.if_ O (λa8=>?_) (λa8=>?_))))))))
      ·
       have E:=A0 a8 E
       refine WF.seq (WF.rp (.inl O) (QF.as_ O O (AA (kp [2] O) (WF.ret (λaa ww hf hw=>?_)))))
       have d3:=I.drop .head
       cases E
       have d4:=e5.trans (b1.trans (b6.trans (bz.trans a6)))
       exact DD hf hw O O d4 ⟨O,d3⟩
      ·
       have E:=A3 a8 E
       refine WF.skip (Ap (WF.rp (.inl O) (QF.addw O O O (QF.mv O O (AA (kp [121,120,119] O) (WF.nil (λaa ww hf hw=>?_)))))))
       exact⟨(Aw (V+1)),_,_,hf.sub (kp [120,119,121] O),hw,I,a6,(BA _),E⟩
     ·
      have E:=A3 a7 E
      refine WF.exit O (λaa ww hf hw=>?_)
      have d5:=I.drop .head
      exact⟨_,_,hf.sub JH,hw,d5,a6,E⟩
   ·
    rintro aa ww ⟨ke,kf,hf,hw,d6,gk,E⟩
    refine WF.run ?_ hf hw
    clear hf hw ww aa
    rw[Bo] at E
    refine WF.seq (WF.rp (.inl O) (QF.as_ O O (AA (kp [2] O) (WF.ret (λaa ww hf hw=>?_)))))
    cases E
    have d7:=e5.trans (b1.trans (b6.trans (bz.trans gk)))
    exact DD hf hw O O d7 ⟨O,d6⟩
theorem KK (hs:St S L h) {m:Value}{b:AJ}(F:Rd S h BV m b) {r:Bool}(E:E8 N b=some r):
 Bf Tryz.prog 42 #[m] S h (λv S' h'=>v= .bool r∧St S' (L) h'):=by
 refine Ab (l:=[m]) 64 Tryz.func42 O Tryz.ntmps42 O λB=>?_
 rw[E8] at E
 refine WF.seq (WF.rl (LF.boxp O F (λe=>by cases e) O hs λq1 S2 h3 am e5 k6=>LF.q 1 (QF.as_ O O (AG (LF.nil (kp [1] O) (WF.seq (WF.seq (WF.rp (.inl O) (QF.fa O k6 FA JP O λq7 k8=>QF.ldl Af am.1 O k8 NC O λv9 an=>QF.len O an La O λcg=>QF.mv O O ?_)))))))))
 refine AA (kp [10,9,8,1] O) (WF.blockJ (λa w=>IV B S2 h3 (64,[]) a w [(1,q1)] (L) λ_ _=>CV N b=some r) ?_ ?_)
 ·
  refine WF.loopF (λn1=>λa w=>∃(s:Int),IV B S2 h3 (64,[]) a w [(9,.int .i64 (↑b.Towns.length:Int)),(8,v9),(1,q1),(10,.int .i64 s)] (L) λ_ _=>AB s∧CU N b (CV N b) n1 s=some r) N ?_ ?_ ?_
  ·
   intro aa ww hf hw
   exact⟨0,_,_,hf.sub (kp [9,8,1,10] O),hw,am,(Bc.refl S2 h3),(iq (n:=0) O),E⟩
  ·
   rintro aa ww ⟨_,_,_,_,_,_,_,_,E⟩
   rw[CU] at E;cases E
  ·
   rintro n1 aa ww ⟨s,ch,ci,hf,hw,t,u,cj,E⟩
   refine WF.run ?_ hf hw
   clear hf hw ww aa
   rw[CU] at E
   refine WF.seq (WF.rp (.inl O) (QF.lss O O O (AA (kp [11,9,8,1,10] O) (WF.seq (WF.if_ O (λU=>?_) (λU=>?_))))))
   ·
    have E:=A0 U E
    refine WF.skip (WF.seq (WF.block (WF.seq (WF.rl (LF.q 2 ?_)))))
    have bk:=an.mono' u
    obtain⟨p,ao,E⟩:=bd E
    refine QF.ixe O O bk La ao O λck bl=>QF.ld Af t.1 O bl Iw (λe=>by cases e) O λcl bm=>AG (LF.al Of O t λcm cn ap G=>?_)
    have bn:=bm.mono G
    obtain⟨rfl,⟨co,bo,bp,bq,br,bt,bu⟩⟩:=EK.ex bn
    refine Ad (vs:=[.string p.Name,.int .i64 p.Place,.int .i64 p.Flood,.int .i64 p.Lead,.int .i64 p.People,.int .i64 p.Watch,.int .i64 p.Quorum]) O O O O Iw O ap .head O λcp c V=>LF.nil (kp [4,9,8,1,10] O) (WF.seq (WF.rc (.inl O) c (QF.fao O Lx O (AI Ai c O mh O AL O ?_))))
    have aq:=u.trans (G.trans V)
    have bv:=k6.mono aq
    refine QF.fa O bv A4 DW O λcq bw=>QF.ldl Ai c.1 O bw Ff O λcr bx=>QF.len O bx E5 O λbz=>?_
    obtain⟨b0,ar,E⟩:=bd E
    refine Aa O O O Nl O (λh' o=>Ek (St.all h') bo (Jk bz) ar) (QF.not O O (QF.mv O O ?_))
    obtain⟨au,d,E⟩:=bd E
    refine QF.cutv 5 26 (.bool au) ?_ ?_
    ·
     cases av:(!b0)
     ·
      have d:=A3 av d
      refine QF.gy O O O (QF.fao O P9 O (QF.gy O O O (AI Ai c O mh O AL O (QF.gy O O O ?_))))
      obtain⟨cs,aw,d⟩:=bd d
      refine Aa O O O HS O (λh' o=>BF (St.all h') bp aw) (QF.gy O O O (QF.not O O (QF.pick O O O ?_)))
      cases d
      exact AH O
     ·
      have d:=A0 av d
      cases d
      exact AK O O
    refine QF.mv O O ?_
    obtain⟨ax,g,E⟩:=bd E
    refine QF.cutv 5 32 (.bool ax) ?_ ?_
    ·
     cases ay:au
     ·
      have g:=A3 ay g
      refine QF.gy O O O (QF.fao O Nb O (QF.gy O O O (AI Ai c O mh O AL O (QF.gy O O O ?_))))
      obtain⟨ct,az,g⟩:=bd g
      refine Aa O O O Fx O (λh' o=>A8 (St.all h') bq (iq (n:=0) O) (iq (n:=24) O) az) (QF.gy O O O (QF.not O O (QF.pick O O O ?_)))
      cases g
      exact AH O
     ·
      have g:=A0 ay g
      cases g
      exact AK O O
    refine QF.mv O O ?_
    obtain⟨a0,i,E⟩:=bd E
    refine QF.cutv 5 38 (.bool a0) ?_ ?_
    ·
     cases a1:ax
     ·
      have i:=A3 a1 i
      refine QF.gy O O O (QF.fao O UN O (QF.gy O O O (AI Ai c O mh O AL O (QF.gy O O O ?_))))
      obtain⟨cu,a2,i⟩:=bd i
      refine Aa O O O Fx O (λh' o=>A8 (St.all h') br (iq (n:=0) O) (iq (n:=1073741824) O) a2) (QF.gy O O O (QF.not O O (QF.pick O O O ?_)))
      cases i
      exact AH O
     ·
      have i:=A0 a1 i
      cases i
      exact AK O O
    refine QF.mv O O ?_
    obtain⟨a3,j,E⟩:=bd E
    refine QF.cutv 5 44 (.bool a3) ?_ ?_
    ·
     cases a4:a0
     ·
      have j:=A3 a4 j
      refine QF.gy O O O (QF.fao O UM O (QF.gy O O O (AI Ai c O mh O AL O (QF.gy O O O ?_))))
      obtain⟨cv,a5,j⟩:=bd j
      refine Aa O O O HS O (λh' o=>BF (St.all h') bt a5) (QF.gy O O O (QF.not O O (QF.pick O O O ?_)))
      cases j
      exact AH O
     ·
      have j:=A0 a4 j
      cases j
      exact AK O O
    refine QF.mv O O ?_
    obtain⟨b1,k,E⟩:=bd E
    refine QF.cutv 5 50 (.bool b1) ?_ ?_
    ·
     cases a6:a3
     ·
      have k:=A3 a6 k
      refine QF.gy O O O (QF.fao O UL O (QF.gy O O O (AI Ai c O mh O AL O (QF.gy O O O ?_))))
      obtain⟨cw,a7,k⟩:=bd k
      refine Aa O O O Fx O (λh' o=>A8 (St.all h') bu (iq (n:=0) O) (iq (n:=128) O) a7) (QF.gy O O O (QF.not O O (QF.pick O O O ?_)))
      cases k
      exact AH O
     ·
      have k:=A0 a6 k
      cases k
      exact AK O O
    refine Ak (kp [50,9,8,1,10] O) λcx I a8=>WF.if_ O (λW=>?_) (λW=>?_)
    ·
     have E:=A0 W E
     refine WF.seq (WF.rp (.inl O) (QF.as_ O O (AA (kp [2] O) (WF.ret (λaa ww hf hw=>?_)))))
     have a9:=I.drop .head
     cases E
     have ba:=e5.trans (u.trans (G.trans (V.trans a8)))
     exact DD hf hw O O ba ⟨O,a9⟩
    ·
     have E:=A3 W E
     refine WF.skip (Ap (WF.rp (.inl O) (QF.addw O O O (QF.mv O O (AA (kp [10,9,8,1] O) (WF.nil (λaa ww hf hw=>?_)))))))
     have bb:=I.drop .head
     have bc:=u.trans (G.trans (V.trans a8))
     exact⟨(Aw (s+1)),_,_,hf.sub (kp [9,8,1,10] O),hw,bb,bc,(BA _),E⟩
   ·
    have E:=A3 U E
    refine WF.exit O (λaa ww hf hw=>?_)
    exact⟨_,_,hf.sub (kp [1] O),hw,t,u,E⟩
 ·
  rintro aa ww ⟨X,Y,hf,hw,J,Z,E⟩
  refine WF.run ?_ hf hw
  clear hf hw ww aa
  rw[CV] at E
  refine WF.seq (WF.seq (WF.rp (.inl O) ?_))
  have b2:=k6.mono Z
  refine QF.fa O b2 GR M6 O λcy b3=>QF.ldl Af J.1 O b3 RI O λb4 be=>QF.len O be OF O λcz=>QF.mv O O (AA (kp [55,54,53] O) (WF.blockJ (λa w=>IV B X Y (64,[]) a w [] (L) λ_ _=>Dm N=some r) ?_ ?_))
  ·
   refine WF.loopF (λn3=>λa w=>∃(x:Int),IV B X Y (64,[]) a w [(54,.int .i64 (↑b.Shelters.length:Int)),(53,b4),(55,.int .i64 x)] (L) λ_ _=>AB x∧CT N b (Dm N) n3 x=some r) N ?_ ?_ ?_
   ·
    intro aa ww hf hw
    exact⟨0,_,_,hf.sub (kp [54,53,55] O),hw,J,(Bc.refl X Y),(iq (n:=0) O),E⟩
   ·
    rintro aa ww ⟨_,_,_,_,_,_,_,_,E⟩
    rw[CT] at E;cases E
   ·
    rintro n3 aa ww ⟨x,c0,c1,hf,hw,y,H,c2,E⟩
    refine WF.run ?_ hf hw
    clear hf hw ww aa
    rw[CT] at E
    refine WF.seq (WF.rp (.inl O) (QF.lss O O O (AA (kp [56,54,53,55] O) (WF.seq (WF.if_ O (λab=>?_) (λab=>?_))))))
    ·
     have E:=A0 ab E
     refine WF.skip (WF.seq (WF.block (WF.seq (WF.rl (LF.q 2 ?_)))))
     have b5:=be.mono' H
     obtain⟨K,ac,E⟩:=bd E
     refine QF.ixe O O b5 OF ac O λb6 bf=>QF.ld Af y.1 O bf Oi (λe=>by cases e) O λb7 bg=>AG (LF.al Sv O y λb8 b9 ad z=>?_)
     have bh:=bg.mono z
     obtain⟨rfl,⟨ca,bi⟩⟩:=Cc.ex bh
     refine Ad (vs:=[.string K.Name,.int .i64 K.Room]) O O O O Oi O ad .head O λcb A M=>LF.nil (kp [6,54,53,55] O) (WF.seq (WF.rc (.inl O) A (QF.fao O UE O (AI Ai A O mh O AL O ?_))))
     obtain⟨cc,ae,E⟩:=bd E
     refine Aa O O O Fx O (λh' o=>A8 (St.all h') bi (iq (n:=0) O) (iq (n:=1073741824) O) ae) (QF.not O O (Ak (kp [62,54,53,55] O) λcd C Q=>WF.if_ O (λD=>?_) (λD=>?_)))
     ·
      have E:=A0 D E
      refine WF.seq (WF.rp (.inl O) (QF.as_ O O (AA (kp [2] O) (WF.ret (λaa ww hf hw=>?_)))))
      have af:=C.drop .head
      cases E
      have ag:=e5.trans (Z.trans (H.trans (z.trans (M.trans Q))))
      exact DD hf hw O O ag ⟨O,af⟩
     ·
      have E:=A3 D E
      refine WF.skip (Ap (WF.rp (.inl O) (QF.addw O O O (QF.mv O O (AA (kp [55,54,53] O) (WF.nil (λaa ww hf hw=>?_)))))))
      have ah:=C.drop .head
      have ai:=H.trans (z.trans (M.trans Q))
      exact⟨(Aw (x+1)),_,_,hf.sub (kp [54,53,55] O),hw,ah,ai,(BA _),E⟩
    ·
     have E:=A3 ab E
     refine WF.exit O (λaa ww hf hw=>?_)
     exact⟨_,_,hf.sub JH,hw,y,H,E⟩
  ·
   rintro aa ww ⟨ce,cf,hf,hw,aj,bj,E⟩
   refine WF.run ?_ hf hw
   clear hf hw ww aa
   rw[Dm] at E
   refine WF.seq (WF.rp (.inl O) (QF.as_ O O (AA (kp [2] O) (WF.ret (λaa ww hf hw=>?_)))))
   cases E
   have ak:=e5.trans (Z.trans bj)
   exact DD hf hw O O ak ⟨O,aj⟩
theorem Jv (hs:St S L h) {g:Value}{b:AJ}(A:Rd S h BV g b) {r:Bool}(E:En N b=some r):
 Bf Tryz.prog 43 #[g] S h (λv S' h'=>v= .bool r∧St S' (L) h'):=by
 refine Ab (l:=[g]) 47 Tryz.func43 O Tryz.ntmps43 O λB=>?_
 rw[En] at E
 refine WF.seq (WF.rl (LF.boxp O A (λe=>by cases e) O hs λq1 S2 h3 K e5 k6=>LF.q 1 (QF.as_ O O (AG (LF.nil (kp [1] O) (WF.seq (WF.seq (WF.rp (.inl O) (QF.fa O k6 H5 O5 O λq7 k8=>QF.ldl Af K.1 O k8 TD O λv9 M=>QF.len O M Pe O λbf=>QF.mv O O ?_)))))))))
 refine AA (kp [9,8,7,1] O) (WF.blockJ (λa w=>IV B S2 h3 (47,[]) a w [] (L) λ_ _=>Da N=some r) ?_ ?_)
 ·
  refine WF.loopF (λn1=>λa w=>∃(s:Int),IV B S2 h3 (47,[]) a w [(8,.int .i64 (↑b.Gauges.length:Int)),(7,v9),(1,q1),(9,.int .i64 s)] (L) λ_ _=>AB s∧CP N b (Da N) n1 s=some r) N ?_ ?_ ?_
  ·
   intro aa ww hf hw
   exact⟨0,_,_,hf.sub (kp [8,7,1,9] O),hw,K,(Bc.refl S2 h3),(iq (n:=0) O),E⟩
  ·
   rintro aa ww ⟨_,_,_,_,_,_,_,_,E⟩
   rw[CP] at E;cases E
  ·
   rintro n1 aa ww ⟨s,bg,bh,hf,hw,t,m,bi,E⟩
   refine WF.run ?_ hf hw
   clear hf hw ww aa
   rw[CP] at E
   refine WF.seq (WF.rp (.inl O) (QF.lss O O O (AA (kp [10,8,7,1,9] O) (WF.seq (WF.if_ O (λG=>?_) (λG=>?_))))))
   ·
    have E:=A0 G E
    refine WF.skip (WF.seq (WF.block (WF.seq (WF.rl (LF.q 2 ?_)))))
    have ar:=M.mono' m
    obtain⟨u,Q,E⟩:=bd E
    refine QF.ixe O O ar Pe Q O λbj au=>QF.ld Af t.1 O au Oj (λe=>by cases e) O λbk av=>AG (LF.al Sw O t λbl bm U x=>?_)
    have aw:=av.mono x
    obtain⟨rfl,⟨bn,ax,ay,az,a0⟩⟩:=Di.ex aw
    refine Ad (vs:=[.string u.Name,.int .i64 u.Kind,.int .i64 u.Target,.int .i64 u.Err,.int .i64 u.Drift]) O O O O Oj O U .head O λbo j C=>LF.nil (kp [4,8,7,1,9] O) (WF.seq (WF.seq (WF.rc (.inl O) j (QF.fao O P7 O (AI Ai j O mh O AL O ?_)))))
    obtain⟨a1,V,E⟩:=bd E
    refine Aa O O O Fx O (λh' o=>A8 (St.all h') ax (iq (n:=0) O) (iq (n:=2) O) V) (QF.not O O (QF.mv O O ?_))
    obtain⟨W,c,E⟩:=bd E
    refine QF.cutv 5 22 (.bool W) ?_ ?_
    ·
     cases X:(!a1)
     ·
      have c:=A3 X c
      refine QF.gy O O O (QF.fao O UH O (QF.gy O O O (AI Ai j O mh O AL O (QF.gy O O O ?_))))
      obtain⟨bp,Y,c⟩:=bd c
      refine Aa O O O Fx O (λh' o=>A8 (St.all h') az (iq (n:=0) O) (iq (n:=1099511627776) O) Y) (QF.gy O O O (QF.not O O (QF.pick O O O ?_)))
      cases c
      exact AH O
     ·
      have c:=A0 X c
      cases c
      exact AK O O
    refine QF.mv O O ?_
    obtain⟨a2,d,E⟩:=bd E
    refine QF.cutv 5 28 (.bool a2) ?_ ?_
    ·
     cases Z:W
     ·
      have d:=A3 Z d
      refine QF.gy O O O (QF.fao O UG O (QF.gy O O O (AI Ai j O mh O AL O (QF.gy O O O ?_))))
      obtain⟨bq,ab,d⟩:=bd d
      refine Aa O O O Fx O (λh' o=>A8 (St.all h') a0 (iq (n:=0) O) (iq (n:=1440) O) ab) (QF.gy O O O (QF.not O O (QF.pick O O O ?_)))
      cases d
      exact AH O
     ·
      have d:=A0 Z d
      cases d
      exact AK O O
    refine Ak (kp [28,4,8,7,1,9] O) λbr i D=>WF.if_ O (λH=>?_) (λH=>?_)
    ·
     have E:=A0 H E
     refine WF.seq (WF.rp (.inl O) (QF.as_ O O (AA (kp [2] O) (WF.ret (λaa ww hf hw=>?_)))))
     have ac:=i.drop .head
     cases E
     have ad:=e5.trans (m.trans (x.trans (C.trans D)))
     exact DD hf hw O O ad ⟨O,ac⟩
    ·
     have E:=A3 H E
     refine WF.skip (WF.seq (WF.rl (LF.q 9 ?_)))
     have ae:=m.trans (x.trans (C.trans D))
     have I:=k6.mono ae
     refine QF.fa O I A4 DW O λbt a3=>QF.ldl Af i.1 O a3 Ff O λbu a4=>QF.len O a4 E5 O λa5=>QF.fa O I Ig O6 O λbv a6=>QF.ldi Af i.1 O a6 AL O λa7=>QF.fa O I AJ.f_Links FP O λbw a8=>QF.ldl Af i.1 O a8 Ho O λbx a9=>QF.len O a9 GO O λba=>WD (cs:=[.int .i64 (↑b.Places.length:Int),.int .i64 b.Cells,.int .i64 (↑b.Links.length:Int)]) X3 O O O (AG (LF.al Wp O i λbz b0 af ag=>Ad (vs:=[.int .i64 (↑b.Places.length:Int),.int .i64 b.Cells,.int .i64 (↑b.Links.length:Int)]) O O O O Wx O af .head O λb1 k ah=>LF.nil (kp [5,4,8,7,1,9] O) (WF.seq ?_)))
     refine WF.rc (.inr ⟨mo,by kernel_rfl⟩) k (QF.fao O UI O (AI Ai k O (mt mh) O AL O (QF.fao O P7 O (AI Ai k O (mt mh) O AL O ?_))))
     obtain⟨bb,y,E⟩:=bd E
     have ai:=Wa y
     refine X9 O O X2 ai.1 ai.2 O (WA (l:=([(↑b.Places.length:Int),b.Cells,(↑b.Links.length:Int)]:List Int)) (Value.int .i64) Ai k O mh O y AL O ?_)
     have bc:AB bb:=ZA (p:=λz=>AB z) (all_cons (Jk a5) (all_cons a7 (all_cons (Jk ba) V4))) y
     obtain⟨b2,aj,E⟩:=bd E
     refine Aa O O O Nl O (λh' o=>Ek (St.all h') ay bc aj) (QF.not O O (Ak (kp [45,8,7,1,9] O) λb3 F ak=>WF.if_ O (λJ=>?_) (λJ=>?_)))
     ·
      have E:=A0 J E
      refine WF.seq (WF.rp (.inl O) (QF.as_ O O (AA (kp [2] O) (WF.ret (λaa ww hf hw=>?_)))))
      have am:=F.sel [] 2 O
      cases E
      have an:=e5.trans (m.trans (x.trans (C.trans (D.trans (ag.trans (ah.trans ak))))))
      exact DD hf hw O O an ⟨O,am⟩
     ·
      have E:=A3 J E
      refine WF.skip (Ap (WF.rp (.inl O) (QF.addw O O O (QF.mv O O (AA (kp [9,8,7,1] O) (WF.nil (λaa ww hf hw=>?_)))))))
      have ao:=F.sel [] 2 O
      have ap:=m.trans (x.trans (C.trans (D.trans (ag.trans (ah.trans ak)))))
      exact⟨(Aw (s+1)),_,_,hf.sub (kp [8,7,1,9] O),hw,ao,ap,(BA _),E⟩
   ·
    have E:=A3 G E
    refine WF.exit O (λaa ww hf hw=>?_)
    exact⟨_,_,hf.sub JH,hw,t,m,E⟩
 ·
  rintro aa ww ⟨b4,b5,hf,hw,aq,be,E⟩
  refine WF.run ?_ hf hw
  clear hf hw ww aa
  rw[Da] at E
  refine WF.seq (WF.rp (.inl O) (QF.as_ O O (AA (kp [2] O) (WF.ret (λaa ww hf hw=>?_)))))
  cases E
  exact DD hf hw O O (e5.trans be) ⟨O,aq⟩
end Go.Proofs.YtibidnaedddfdaaGreat
