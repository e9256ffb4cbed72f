import Derived.Test.YtibidnaedddfdaaGreatBWalk6
namespace Go.Proofs.YtibidnaedddfdaaGreat
open Go.RowKit
set_option linter.unusedVariables false
set_option linter.unusedSimpArgs false
set_option maxRecDepth 10000
set_option maxHeartbeats 2000000
variable {N:Nat}{S:Nat→Prop}{L:List HP}{h:Ac}
theorem IB (hs:St S L h) {s:Value}{d:AK}(aj:Rd S h BG s d) {t:Value}{b:Al}(ak:Rd S h CE t b) {u:Value}{c:CQ}(am:Rd S h EM u c) {r:Bool}(E:JU N d b c=some r):
 Bh Tryz.prog 26 #[s,t,u] S h (λv S' h'=>v= .bool r∧St S' (L) h'):=by
 refine Ag (l:=[s,t,u]) 103 Tryz.func26 O Tryz.ntmps26 O λB=>?_
 rw[JU] at E
 refine WF.seq (WF.rl (LF.boxp O aj (λe=>by cases e) O hs λq1 S2 h3 cw e5 k6=>?_))
 have k7:=ak.mono e5
 refine LF.boxp O k7 (λe=>by cases e) O cw λq8 S9 eq bp C cx=>?_
 have cy:=am.mono (e5.trans C)
 refine LF.boxp O cy (λe=>by cases e) O bp λan ax ay i D K=>LF.q 1 (QF.as_ O O (AE (LF.nil (kp [5,4,3] O) (WF.seq (WF.seq (WF.rp (.inl O) ?_))))))
 have F:=cx.mono D
 refine QF.fa O F Al.f_Hour Gu O λer cz=>QF.ldi Af i.1 O cz AM O λes=>QF.fa O K CQ.f_Hour Rc O λet c0=>QF.ldi Af i.1 O c0 AM O λeu=>QF.neq O O O (QF.mv O O (QF.cutv 8 25 (.bool ((decide (b.Hour≠c.Hour))||(decide ((↑b.Vol.length:Int)≠(↑d.Places.length:Int))))) ?_ ?_))
 ·
  cases ev:(decide (b.Hour≠c.Hour))
  ·
   refine QF.gy O O O (QF.fa O F Al.f_Vol FV O λew c1=>QF.gy O O O (QF.ldl Af i.1 O c1 FH O λey c2=>QF.gy O O O (QF.len O c2 DY O λez=>QF.gy O O O ?_)))
   have c3:=k6.mono (C.trans D)
   exact QF.fa O c3 Aj CX O λe0 c4=>QF.gy O O O (QF.ldl Af i.1 O c4 Ec O λe1 c5=>QF.gy O O O (QF.len O c5 D8 O λe2=>QF.gy O O O (QF.neq O O O (QF.pick O O O (AJ O)))))
  ·exact AL O O
 refine QF.mv O O (QF.cutv 8 34 (.bool (((decide (b.Hour≠c.Hour))||(decide ((↑b.Vol.length:Int)≠(↑d.Places.length:Int))))||(decide ((↑b.Links.length:Int)≠(↑d.Links.length:Int))))) ?_ ?_)
 ·
  cases e3:((decide (b.Hour≠c.Hour))||(decide ((↑b.Vol.length:Int)≠(↑d.Places.length:Int))))
  ·
   refine QF.gy O O O (QF.fa O F Al.f_Links FJ O λe4 c6=>QF.gy O O O (QF.ldl Af i.1 O c6 Hp O λe6 c7=>QF.gy O O O (QF.len O c7 IN O λe7=>QF.gy O O O ?_)))
   have c8:=k6.mono (C.trans D)
   exact QF.fa O c8 AK.f_Links Ez O λe8 c9=>QF.gy O O O (QF.ldl Af i.1 O c9 HT O λe9 da=>QF.gy O O O (QF.len O da Fx O λfb=>QF.gy O O O (QF.neq O O O (QF.pick O O O (AJ O)))))
  ·exact AL O O
 refine QF.mv O O (QF.cutv 8 43 (.bool ((((decide (b.Hour≠c.Hour))||(decide ((↑b.Vol.length:Int)≠(↑d.Places.length:Int))))||(decide ((↑b.Links.length:Int)≠(↑d.Links.length:Int))))||(decide ((↑c.Own.length:Int)≠(↑b.Vol.length:Int))))) ?_ ?_)
 ·
  cases fc:(((decide (b.Hour≠c.Hour))||(decide ((↑b.Vol.length:Int)≠(↑d.Places.length:Int))))||(decide ((↑b.Links.length:Int)≠(↑d.Links.length:Int))))
  ·
   refine QF.gy O O O (QF.fa O K Jc M4 O λfd db=>QF.gy O O O (QF.ldl Af i.1 O db Q3 O λfe dc=>QF.gy O O O (QF.len O dc PY O λff=>QF.gy O O O (QF.fa O F Al.f_Vol FV O λfg dd=>QF.gy O O O (QF.ldl Af i.1 O dd FH O λfh de=>QF.gy O O O (QF.len O de DY O λfi=>QF.gy O O O (QF.neq O O O ?_)))))))
   exact QF.pick O O O (AJ O)
  ·exact AL O O
 refine QF.mv O O (QF.cutv 8 52 (.bool (((((decide (b.Hour≠c.Hour))||(decide ((↑b.Vol.length:Int)≠(↑d.Places.length:Int))))||(decide ((↑b.Links.length:Int)≠(↑d.Links.length:Int))))||(decide ((↑c.Own.length:Int)≠(↑b.Vol.length:Int))))||(decide ((↑c.Gates.length:Int)≠(↑b.Links.length:Int))))) ?_ ?_)
 ·
  cases fj:((((decide (b.Hour≠c.Hour))||(decide ((↑b.Vol.length:Int)≠(↑d.Places.length:Int))))||(decide ((↑b.Links.length:Int)≠(↑d.Links.length:Int))))||(decide ((↑c.Own.length:Int)≠(↑b.Vol.length:Int))))
  ·
   refine QF.gy O O O (QF.fa O K Ia On O λfk df=>QF.gy O O O (QF.ldl Af i.1 O df Sr O λfl dg=>QF.gy O O O (QF.len O dg Q8 O λfm=>QF.gy O O O (QF.fa O F Al.f_Links FJ O λfn dh=>QF.gy O O O (QF.ldl Af i.1 O dh Hp O λfo di=>QF.gy O O O (QF.len O di IN O λfp=>QF.gy O O O (QF.neq O O O ?_)))))))
   exact QF.pick O O O (AJ O)
  ·exact AL O O
 refine AA (kp [52,5,4] O) (WF.if_ O (λaz=>?_) (λaz=>?_))
 ·
  have E:=A7 az E
  refine WF.seq (WF.rp (.inl O) (QF.as_ O O (AA (kp [6] O) (WF.ret (λaa ww hf hw=>?_)))))
  cases E
  have bq:=e5.trans (C.trans D)
  exact DC hf hw O O bq ⟨O,i⟩
 ·
  have E:=A8 az E
  refine WF.skip (WF.seq (WF.seq (WF.rp (.inl O) (QF.fa O F Al.f_Vol FV O λfq dj=>QF.ldl Af i.1 O dj FH O λdk br=>QF.len O br DY O λfr=>QF.mv O O (AA (kp [56,55,54,5,4] O) (WF.blockJ (λa w=>IV B ax ay (103,[]) a w [(5,an),(4,q8)] (L) λ_ _=>Hm N b c=some r) ?_ ?_))))))
  ·
   refine WF.loopF (λn1=>λa w=>∃(M:Int),IV B ax ay (103,[]) a w [(55,.int .i64 (↑b.Vol.length:Int)),(54,dk),(5,an),(4,q8),(56,.int .i64 M)] (L) λ_ _=>AB M∧Gn N b c (Hm N b c) n1 M=some r) N ?_ ?_ ?_
   ·
    intro aa ww hf hw
    exact⟨0,_,_,hf.sub (kp [55,54,5,4,56] O),hw,i,(Bg.refl ax ay),(iq (n:=0) O),E⟩
   ·
    rintro aa ww ⟨_,_,_,_,_,_,_,_,E⟩
    rw[Gn] at E;cases E
   ·
    rintro n1 aa ww ⟨M,fs,ft,hf,hw,Q,U,fu,E⟩
    refine WF.run ?_ hf hw
    clear hf hw ww aa
    rw[Gn] at E
    refine WF.seq (WF.rp (.inl O) (QF.lss O O O (AA (kp [57,55,54,5,4,56] O) (WF.seq (WF.if_ O (λa0=>?_) (λa0=>?_))))))
    ·
     have E:=A7 a0 E
     refine WF.skip (WF.seq (WF.block (WF.seq (WF.rl (LF.q 3 (QF.mv O O ?_))))))
     have dl:=br.mono' U
     obtain⟨V,bt,E⟩:=bd E
     refine QF.ixe O O dl DY bt O λfv dm=>QF.ld Af Q.1 O dm Ad (λe=>by cases e) O λfw dn=>AE (LF.al EH O Q λfx fy bu ao=>LF.q 1 (QF.as_ O O (AE ?_)))
     have bv:=dn.mono ao
     obtain⟨rfl,⟨bw,bx⟩⟩:=AH.ex bv
     refine Ai (vs:=[.int .i64 V.Lo,.int .i64 V.Hi]) O O O O Ad O bu .head O λdp k W=>LF.nil (kp [7,8,55,54,5,4,56] O) (WF.seq (WF.rc (.inr ⟨mo,by kernel_rfl⟩) k (QF.ldo (vs:=[.int .i64 V.Lo,.int .i64 V.Hi]) Ak k O mh O O Ad O O ?_)))
     have a1:=U.trans (ao.trans W)
     have bz:=K.mono a1
     refine QF.fa O bz Jc M4 O λdq b0=>QF.ldl Ak k.1 O b0 Q3 O λdr b1=>QF.mv O O ?_
     obtain⟨ds,a2,E⟩:=bd E
     refine QF.ixe O O b1 PY a2 O λdt b2=>QF.ldl Ak k.1 O b2 KB O λdu b3=>?_
     obtain⟨dv,a3,E⟩:=bd E
     refine Ao O O O Ro O (λh' o=>HD (St.all h') (b3.mono' (o.all k.1)) a3) λb4=>?_
     have b5:=b4
     obtain⟨dw,a4,E⟩:=bd E
     refine Ab O O O Ni O (λh' o=>Fk (St.all h') (AH.mk (x:=V) ⟨bw,bx⟩) b5 a4) (QF.not O O (Aq (kp [69,55,54,5,4,56] O) λdx X ap=>WF.if_ O (λY=>?_) (λY=>?_)))
     ·
      have E:=A7 Y E
      refine WF.seq (WF.rp (.inl O) (QF.as_ O O (AA (kp [6] O) (WF.ret (λaa ww hf hw=>?_)))))
      have a5:=X.drop .head
      cases E
      have a6:=e5.trans (C.trans (D.trans (U.trans (ao.trans (W.trans ap)))))
      exact DC hf hw O O a6 ⟨O,a5⟩
     ·
      have E:=A8 Y E
      refine WF.skip (Ap (WF.rp (.inl O) (QF.addw O O O (QF.mv O O (AA (kp [56,55,54,5,4] O) (WF.nil (λaa ww hf hw=>?_)))))))
      have a7:=X.drop .head
      have a8:=U.trans (ao.trans (W.trans ap))
      exact⟨(A3 (M+1)),_,_,hf.sub (kp [55,54,5,4,56] O),hw,a7,a8,(BA _),E⟩
    ·
     have E:=A8 a0 E
     refine WF.exit O (λaa ww hf hw=>?_)
     exact⟨_,_,hf.sub (kp [5,4] O),hw,Q,U,E⟩
  ·
   rintro aa ww ⟨Z,ab,hf,hw,ac,y,E⟩
   refine WF.run ?_ hf hw
   clear hf hw ww aa
   rw[Hm] at E
   refine WF.seq (WF.seq (WF.rp (.inl O) ?_))
   have aq:=F.mono y
   refine QF.fa O aq Al.f_Links FJ O λdy b6=>QF.ldl Af ac.1 O b6 Hp O λb7 ar=>QF.len O ar IN O λdz=>QF.mv O O (AA (kp [74,73,72,5,4] O) (WF.blockJ (λa w=>IV B Z ab (103,[]) a w [(5,an),(4,q8)] (L) λ_ _=>Hl N b c=some r) ?_ ?_))
   ·
    refine WF.loopF (λn3=>λa w=>∃(z:Int),IV B Z ab (103,[]) a w [(73,.int .i64 (↑b.Links.length:Int)),(72,b7),(5,an),(4,q8),(74,.int .i64 z)] (L) λ_ _=>AB z∧Gm N b c (Hl N b c) n3 z=some r) N ?_ ?_ ?_
    ·
     intro aa ww hf hw
     exact⟨0,_,_,hf.sub (kp [73,72,5,4,74] O),hw,ac,(Bg.refl Z ab),(iq (n:=0) O),E⟩
    ·
     rintro aa ww ⟨_,_,_,_,_,_,_,_,E⟩
     rw[Gm] at E;cases E
    ·
     rintro n3 aa ww ⟨z,d0,d1,hf,hw,G,A,d2,E⟩
     refine WF.run ?_ hf hw
     clear hf hw ww aa
     rw[Gm] at E
     refine WF.seq (WF.rp (.inl O) (QF.lss O O O (AA (kp [75,73,72,5,4,74] O) (WF.seq (WF.if_ O (λad=>?_) (λad=>?_))))))
     ·
      have E:=A7 ad E
      refine WF.skip (WF.seq (WF.block (WF.seq (WF.rl (LF.q 3 (QF.mv O O ?_))))))
      have b8:=ar.mono' A
      obtain⟨j,a9,E⟩:=bd E
      refine QF.ixe O O b8 IN a9 O λd3 b9=>QF.ld Af G.1 O b9 GF (λe=>by cases e) O λd4 ca=>AE (LF.al PL O G λd5 d6 ba I=>LF.q 1 (QF.as_ O O (AE ?_)))
      have cb:=ca.mono I
      obtain⟨rfl,⟨cc,cd,d7,ce,cf⟩⟩:=Aa.ex cb
      refine Ai (vs:=[.int .i64 j.Pos.Lo,.int .i64 j.Pos.Hi,.int .i64 j.Target,.int .i64 j.Open.Lo,.int .i64 j.Open.Hi]) O O O O GF O ba .head O λd8 H ae=>LF.nil (kp [9,10,73,72,5,4,74] O) (WF.seq (WF.rl (LF.q 5 ?_)))
      have bb:=y.trans (A.trans (I.trans ae))
      have cg:=K.mono bb
      refine QF.fa O cg Ia On O λd9 ch=>QF.ldl Af H.1 O ch Sr O λea ci=>QF.mv O O ?_
      obtain⟨J,bc,E⟩:=bd E
      refine QF.ixe O O ci Q8 bc O λeb cj=>QF.ld Af H.1 O cj HC (λe=>by cases e) O λec ck=>AE (LF.al PM O H λed ee be af=>?_)
      have cl:=ck.mono af
      obtain⟨rfl,⟨cm,ef⟩⟩:=D9.ex cl
      refine Ai (vs:=[.int .i64 J.Pos,.int .i64 J.Target,.bool J.Stuck,.bool J.Open]) O O O O HC O be .head O λeg m au=>LF.nil (kp [11,10,73,72,5,4,74] O) (WF.seq (WF.rc (.inr ⟨mo,by kernel_rfl⟩) m (QF.fao O HF O (QF.ldo (vs:=[.int .i64 j.Pos.Lo,.int .i64 j.Pos.Hi]) Ak m O (mt mh) O O Ad O O (QF.fao O Ls O (AI Ak m O mh O AM O ?_))))))
      obtain⟨cn,bf,E⟩:=bd E
      refine Ab O O O Ni O (λh' o=>Fk (St.all h') (AH.mk (x:=j.Pos) ⟨cc,cd⟩) cm bf) (QF.not O O (QF.mv O O ?_))
      obtain⟨co,g,E⟩:=bd E
      refine QF.cutv 8 98 (.bool co) ?_ ?_
      ·
       cases av:(!cn)
       ·
        have g:=A8 av g
        refine QF.gy O O O (QF.fao O HE O (QF.gy O O O (QF.ldo (vs:=[.int .i64 j.Open.Lo,.int .i64 j.Open.Hi]) Ak m O (mt mh) O O Ad O O (QF.gy O O O (QF.fao O M3 O (QF.gy O O O (AI Ak m O mh O LV O (QF.gy O O O ?_))))))))
        obtain⟨eh,bg,g⟩:=bd g
        refine Ao O O O WC O (λh' o=>Ll (St.all h') bg) λcp=>?_
        have cq:=cp
        refine QF.gy O O O ?_
        obtain⟨ei,bh,g⟩:=bd g
        refine Ab O O O Ni O (λh' o=>Fk (St.all h') (AH.mk (x:=j.Open) ⟨ce,cf⟩) cq bh) (QF.gy O O O (QF.not O O (QF.pick O O O ?_)))
        cases g
        exact AJ O
       ·
        have g:=A7 av g
        cases g
        exact AL O O
      refine Aq (kp [98,73,72,5,4,74] O) λej ag aw=>WF.if_ O (λah=>?_) (λah=>?_)
      ·
       have E:=A7 ah E
       refine WF.seq (WF.rp (.inl O) (QF.as_ O O (AA (kp [6] O) (WF.ret (λaa ww hf hw=>?_)))))
       have bi:=ag.sel [] 2 O
       cases E
       have bj:=e5.trans (C.trans (D.trans (y.trans (A.trans (I.trans (ae.trans (af.trans (au.trans aw))))))))
       exact DC hf hw O O bj ⟨O,bi⟩
      ·
       have E:=A8 ah E
       refine WF.skip (Ap (WF.rp (.inl O) (QF.addw O O O (QF.mv O O (AA (kp [74,73,72,5,4] O) (WF.nil (λaa ww hf hw=>?_)))))))
       have bk:=ag.sel [] 2 O
       have bl:=A.trans (I.trans (ae.trans (af.trans (au.trans aw))))
       exact⟨(A3 (z+1)),_,_,hf.sub (kp [73,72,5,4,74] O),hw,bk,bl,(BA _),E⟩
     ·
      have E:=A8 ad E
      refine WF.exit O (λaa ww hf hw=>?_)
      exact⟨_,_,hf.sub (kp [5,4] O),hw,G,A,E⟩
   ·
    rintro aa ww ⟨ek,el,hf,hw,p,ai,E⟩
    refine WF.run ?_ hf hw
    clear hf hw ww aa
    rw[Hl] at E
    refine WF.seq (WF.rc (.inl O) p ?_)
    have cr:=aq.mono ai
    refine QF.ld Ak p.1 O cr FG (λe=>by cases e) O λem cs=>?_
    have ct:=K.mono (y.trans ai)
    refine QF.ld Ak p.1 O ct I6 (λe=>by cases e) O λen cu=>?_
    obtain⟨eo,bm,E⟩:=bd E
    refine Ab O O O Yt O (λh' o=>Lk (St.all h') (cs.mono (o.all p.1)) (cu.mono (o.all p.1)) bm) (QF.as_ O O (Aq (kp [6] O) λep bn cv=>WF.ret (λaa ww hf hw=>?_)))
    cases E
    have bo:=e5.trans (C.trans (D.trans (y.trans (ai.trans cv))))
    exact DC hf hw O O bo ⟨O,bn⟩
theorem KO (hs:St S L h) {Q:Value}{bh:AK}(bf:Rd S h BG Q bh) {U:Value}{c:CQ}(bg:Rd S h EM U c) {r:Al}(E:Ks N bh c=some r):
 Bh Tryz.prog 24 #[Q,U] S h (λv S' h'=>Rd S' h' CE v r∧St S' (L) h'):=by
 refine Ag (l:=[Q,U]) 75 Tryz.func24 O Tryz.ntmps24 O λB=>?_
 rw[Ks] at E
 refine WF.seq (WF.rl (LF.boxp O bf (λe=>by cases e) O hs λq1 S2 h3 gp e5 k6=>?_))
 have k7:=bg.mono e5
 refine LF.boxp O k7 (λe=>by cases e) O gp λq8 S9 ki dh gq gr=>LF.al N0 O dh λC kj bi di=>LF.nil (kp [4,3] O) (WF.seq (WF.rl (LF.q 3 ?_)))
 have dj:=gr.mono di
 refine QF.fa O dj CQ.f_Hour Rc O λkk gs=>QF.ldi Af bi.1 O gs AM O λgu=>QF.bld (cs:=[.int .i64 c.Hour,.slice none 0 0,.slice none 0 0,.slice none 0 0]) V2 O O O (AE (LF.al N0 O bi λu kl dk dl=>Ai (vs:=[.int .i64 c.Hour,.slice none 0 0,.slice none 0 0,.slice none 0 0]) O O O O FG O dk .head O λca bj dm=>LF.nil (kp [5,4,3] O) (WF.seq (WF.seq (WF.rp (.inl O) ?_)))))
 have dn:=dj.mono (dl.trans dm)
 refine QF.fa O dn Jc M4 O λkm gv=>QF.ldl Af bj.1 O gv Q3 O λdp dq=>QF.len O dq PY O λkn=>QF.mv O O (AA (kp [18,17,16,5,4,3] O) (WF.blockJ (λa w=>∃(z:Value) (H:List AF),IV B S9 ca (75,[]) a w [(5,.pointer (some ⟨u,0,none⟩)),(4,.pointer (some ⟨C,0,none⟩)),(3,q8)] (OS AH 51 z H::Bx u 36 [.int .i64 c.Hour,z,.slice none 0 0,.slice none 0 0]::Bx C 36 [.int .i64 0,.slice none 0 0,.slice none 0 0,.slice none 0 0]::L) λ_ _=>IF N c H=some r) ?_ ?_))
 ·
  refine WF.loopF (λn1=>λa w=>∃(aq:Int) (ar:Value) (V:List AF),IV B S9 ca (75,[]) a w [(17,.int .i64 (↑c.Own.length:Int)),(16,dp),(5,.pointer (some ⟨u,0,none⟩)),(4,.pointer (some ⟨C,0,none⟩)),(3,q8),(18,.int .i64 aq)] (OS AH 51 ar V::Bx u 36 [.int .i64 c.Hour,ar,.slice none 0 0,.slice none 0 0]::Bx C 36 [.int .i64 0,.slice none 0 0,.slice none 0 0,.slice none 0 0]::L) λ_ _=>AB aq∧HM N c (IF N c) n1 aq V=some r) N ?_ ?_ ?_
  ·
   intro aa ww hf hw
   have dr:=bj.nil AH 51
   exact⟨0,(.slice none 0 0),([]),_,_,hf.sub (kp [17,16,5,4,3,18] O),hw,dr,(Bg.refl S9 ca),(iq (n:=0) O),E⟩
  ·
   rintro aa ww ⟨_,_,_,_,_,_,_,_,_,_,E⟩
   rw[HM] at E;cases E
  ·
   rintro n1 aa ww ⟨aq,ar,V,cb,ds,hf,hw,t,cc,ko,E⟩
   refine WF.run ?_ hf hw
   clear hf hw ww aa
   rw[HM] at E
   refine WF.seq (WF.rp (.inl O) (QF.lss O O O (AA (kp [19,17,16,5,4,3,18] O) (WF.seq (WF.if_ O (λcd=>?_) (λcd=>?_))))))
   ·
    have E:=A7 cd E
    refine WF.skip (WF.seq (WF.block (WF.seq (WF.rp (.inl O) ?_))))
    have gw:=dq.mono' cc
    obtain⟨dt,du,E⟩:=bd E
    refine QF.ixe O O gw PY du O λkq gx=>QF.ldl Af t.1 O gx KB O λgz g0=>QF.as_ O O (AA (kp [7,17,16,5,4,3,18] O) ?_)
    obtain⟨dv,dw,E⟩:=bd E
    obtain⟨F,dx,E⟩:=bd E
    refine IX (m:=[(7,gz),(17,.int .i64 (↑c.Own.length:Int)),(16,dp),(5,.pointer (some ⟨u,0,none⟩)),(4,.pointer (some ⟨C,0,none⟩)),(3,q8),(18,.int .i64 aq)]) 6 (λi v hh=>match i with|0=>v= .pointer (some ⟨u,1,none⟩)|1=>v=ar|2=>Sl cb hh AW.int v dt|3=>v= .int .i64 dv∧AB dv|4=>v= .agg #[.int .i64 F.Lo,.int .i64 F.Hi]∧AB F.Lo∧AB F.Hi|5=>Sl (SN cb ds hh) hh AH v ([F]:List AF)∧∃ad,v= .slice (some ad) 1 1|_=>False) [[],[(0,22)],[],[(2,24)],[(3,25)],[(4,26)]] [(1,23),(5,27)] mo (by kernel_rfl) [7,17,16,5,4,3,18] O (by kernel_rfl) (by kernel_rfl) (by kernel_rfl) (kp [7,17,16,5,4,3,18] O) (λi v h1 h2 o1 o2 hr=>?_) ?_ ?_
    ·match i,hr with
      |0,hr=>exact hr
      |1,hr=>exact hr
      |2,hr=>exact Sl.mono' hr (o2.ext λb hb=>Nat.lt_of_lt_of_le (t.1 b hb) o1.siz)
      |3,hr=>exact hr
      |4,hr=>exact hr
      |5,hr=>exact⟨Sl.mono' hr.1 (SN.mono t.1 o1 o2),hr.2⟩
      |_+6,hr=>exact hr.elim
    ·
     refine AQ.cons O ?_ ?_
     ·
      intro mq hh o
      have hsN:=o.st t
      exact LF.q 1 (QF.fao O FV O (AE (AC (An.refl _) O)))
     refine AQ.cons O ?_ ?_
     ·
      intro mq hh o
      intro kr g1
      have hsN:=o.st t
      cases g1
      exact LF.q 1 (AI Af hsN O (mt mh) O FH O (AE (AC (An.refl _) O)))
     refine AQ.cons O ?_ ?_
     ·
      intro mq hh o
      have hsN:=o.st t
      refine LF.q 1 (QF.mv O O (AE ?_))
      have g2:=g0.mono' (o.ext t.1)
      exact AC (An.refl _) g2
     refine AQ.cons O ?_ ?_
     ·
      intro mq hh o
      intro g3 au
      have hsN:=SN.st t o
      have au:=Sl.mono' (S':=(SN cb ds hh)) au ⟨λb hb=> .inl hb,λ_ _=>rfl,Nat.le_refl _⟩
      have au:Sl _ _ AW.int g3 dt:=au
      refine LF.callb O O O Ro O hsN (HD (St.all _) (au.mono (λb hb=>hsN.1 b hb) (λ_ _=>rfl)) dw) λks kt ku hp kv dy p=>?_
      obtain⟨rfl,g4,hq⟩:=p
      exact AC ⟨dy.siz,λb hb=>dy.same b hb⟩ ⟨O,g4⟩
     refine AQ.cons O ?_ ?_
     ·
      intro mq hh o
      intro kw g5
      have hsN:=SN.st t o
      obtain⟨rfl,g6⟩:=g5
      refine LF.callb O O O It O hsN (Db (St.all _) g6 dx) λkx ky kz ht k0 dz p=>?_
      obtain⟨rfl,⟨g7,g8⟩,hu⟩:=p
      exact AC ⟨dz.siz,λb hb=>dz.same b hb⟩ ⟨O,g7,g8⟩
     refine AQ.cons O ?_ ?_
     ·
      intro mq hh o
      intro k1 g9
      have hsN:=SN.st t o
      obtain⟨rfl,d0,d1⟩:=g9
      have hsF:=hsN.fz
      refine GY (cs:=[.int .i64 F.Lo,.int .i64 F.Hi]) Na O O O O O O O hsF λhv hx ce d2=>?_
      have cf:=ce.bxos (r:=AH) (l:=([F]:List AF)) .head ⟨_,_,O,⟨O,⟨d0,d1⟩⟩,O⟩ (by simp [maxLen])
      obtain⟨hy,cg,d3,d4⟩:=cf.pubs .head
      have av:=Fz.done o (d2.trans d3) cg
      exact AC av.1 ⟨Sl.mono' d4 av.2,_,O⟩
     exact trivial
    intro hz bk h0 d5 h4 aw
    have ch:=SN.st t bk
    cases d5
    obtain⟨aw,ha,rfl⟩:=aw
    obtain⟨ci,E⟩:=O1 E
    refine Kx (r:=AH) (l:=V) (xs:=([F]:List AF)) O O Na O (Sl.src aw) O ci O ch (λ_=> .head) λh5 h6 ax d6=>LF.q 1 (QF.fao O FV O (AE ?_))
    obtain⟨af,W,rfl,h7⟩:=ax.oslen mh
    refine G2 (vs:=[(.slice af (V++([F]:List AF)).length W)]) (cs':=[.int .i64 c.Hour,(.slice af (V++([F]:List AF)).length W),.slice none 0 0,.slice none 0 0]) O O O O FH O ax (.tail .head) O O λh8 cj d7=>LF.nil (kp [17,16,5,4,3,18] O) (Ap (WF.rp (.inl O) (QF.addw O O O (QF.mv O O (AA (kp [18,17,16,5,4,3] O) (WF.nil (λaa ww hf hw=>?_)))))))
    have ck:=cc.trans ((SN.ext t.1 bk).trans (d6.trans d7))
    exact⟨(A3 (aq+1)),(.slice af (V++([F]:List AF)).length W),(V++([F]:List AF)),_,_,hf.sub (kp [17,16,5,4,3,18] O),hw,cj,ck,(BA _),E⟩
   ·
    have E:=A8 cd E
    refine WF.exit O (λaa ww hf hw=>?_)
    exact⟨ar,V,_,_,hf.sub (kp [5,4,3] O),hw,t,cc,E⟩
 ·
  rintro aa ww ⟨z,H,ay,az,hf,hw,a0,bl,E⟩
  refine WF.run ?_ hf hw
  clear hf hw ww aa
  rw[IF] at E
  refine WF.seq (WF.seq (WF.rp (.inl O) ?_))
  have bm:=dn.mono bl
  refine QF.fa O bm CQ.f_Queue Rb O λh9 d8=>QF.ldl Af a0.1 O d8 Vx O λbn bo=>QF.len O bo Q9 O λia=>QF.mv O O (AA (kp [34,33,32,5,4,3] O) (WF.blockJ (λa w=>∃(y:Value) (G:List A4),IV B ay az (75,[]) a w [(5,.pointer (some ⟨u,0,none⟩)),(4,.pointer (some ⟨C,0,none⟩)),(3,q8)] (OS BO 93 y G::OS AH 51 z H::Bx u 36 [.int .i64 c.Hour,z,y,.slice none 0 0]::Bx C 36 [.int .i64 0,.slice none 0 0,.slice none 0 0,.slice none 0 0]::L) λ_ _=>IE N c H G=some r) ?_ ?_))
  ·
   refine WF.loopF (λn3=>λa w=>∃(J:Int) (Z:Value) (ak:List A4),IV B ay az (75,[]) a w [(33,.int .i64 (↑c.Queue.length:Int)),(32,bn),(5,.pointer (some ⟨u,0,none⟩)),(4,.pointer (some ⟨C,0,none⟩)),(3,q8),(34,.int .i64 J)] (OS BO 93 Z ak::OS AH 51 z H::Bx u 36 [.int .i64 c.Hour,z,Z,.slice none 0 0]::Bx C 36 [.int .i64 0,.slice none 0 0,.slice none 0 0,.slice none 0 0]::L) λ_ _=>AB J∧HL N c (IE N c H) n3 J ak=some r) N ?_ ?_ ?_
   ·
    intro aa ww hf hw
    have cl:=a0.nil BO 93
    exact⟨0,(.slice none 0 0),([]),_,_,hf.sub (kp [33,32,5,4,3,34] O),hw,cl,(Bg.refl ay az),(iq (n:=0) O),E⟩
   ·
    rintro aa ww ⟨_,_,_,_,_,_,_,_,_,_,E⟩
    rw[HL] at E;cases E
   ·
    rintro n3 aa ww ⟨J,Z,ak,bp,ib,hf,hw,ag,a1,ic,E⟩
    refine WF.run ?_ hf hw
    clear hf hw ww aa
    rw[HL] at E
    refine WF.seq (WF.rp (.inl O) (QF.lss O O O (AA (kp [35,33,32,5,4,3,34] O) (WF.seq (WF.if_ O (λa2=>?_) (λa2=>?_))))))
    ·
     have E:=A7 a2 E
     refine WF.skip (WF.seq (WF.block (WF.seq (WF.rl (LF.q 2 ?_)))))
     have d9:=bo.mono' a1
     obtain⟨A,cm,E⟩:=bd E
     refine QF.ixe O O d9 Q9 cm O λid ea=>QF.ld Af ag.1 O ea Q2 (λe=>by cases e) O λie eb=>AE (LF.al Vv O ag λam ig cn bq=>?_)
     have ec:=eb.mono bq
     obtain⟨br,rfl,ed,ee,bt⟩:=H1.ex ec
     refine LF.st (vs:=[.int .i64 A.At,.int .i64 A.To,br]) (cs':=[.int .i64 A.At,.int .i64 A.To,br]) O O O (AD O (AD O (AD bt.one EI))) Q2 O cn .head O O λef j bu=>LF.nil (kp [9,33,32,5,4,3,34] O) ?_
     obtain⟨bv,co,E⟩:=bd E
     obtain⟨ab,cp,E⟩:=bd E
     refine IX (m:=[(9,.pointer (some ⟨am,0,none⟩)),(33,.int .i64 (↑c.Queue.length:Int)),(32,bn),(5,.pointer (some ⟨u,0,none⟩)),(4,.pointer (some ⟨C,0,none⟩)),(3,q8),(34,.int .i64 J)]) 10 (λi v hh=>match i with|0=>v= .pointer (some ⟨u,2,none⟩)|1=>v=Z|2=>v= .pointer (some ⟨am,0,none⟩)|3=>v= .int .i64 A.At∧AB A.At|4=>v= .pointer (some ⟨am,1,none⟩)|5=>v= .int .i64 A.To∧AB A.To|6=>v= .pointer (some ⟨am,2,none⟩)|7=>Sl bp hh AW.int v A.Part|8=>v= .int .i64 bv∧AB bv|9=>v= .agg #[.int .i64 ab.Lo,.int .i64 ab.Hi]∧AB ab.Lo∧AB ab.Hi|_=>False) [[],[(0,38)],[],[(2,40)],[],[(4,42)],[],[(6,44)],[(7,45)],[(8,46)]] [(1,39),(3,41),(5,43),(9,47)] mo (by kernel_rfl) [9,33,32,5,4,3,34] O (by kernel_rfl) (by kernel_rfl) (by kernel_rfl) (kp [9,33,32,5,4,3,34] O) (λi v h1 h2 o1 o2 hr=>?_) ?_ ?_
     ·match i,hr with
       |0,hr=>exact hr
       |1,hr=>exact hr
       |2,hr=>exact hr
       |3,hr=>exact hr
       |4,hr=>exact hr
       |5,hr=>exact hr
       |6,hr=>exact hr
       |7,hr=>exact Sl.mono' hr (o2.ext λb hb=>Nat.lt_of_lt_of_le (j.1 b hb) o1.siz)
       |8,hr=>exact hr
       |9,hr=>exact hr
       |_+10,hr=>exact hr.elim
     ·
      refine AQ.cons O ?_ ?_
      ·
       intro mq hh o
       have hsN:=o.st j
       exact LF.q 1 (QF.fao O Gt O (AE (AC (An.refl _) O)))
      refine AQ.cons O ?_ ?_
      ·
       intro mq hh o
       intro ih eg
       have hsN:=o.st j
       cases eg
       exact LF.q 1 (AI Af hsN O (mt (mt (mt mh))) O Jf O (AE (AC (An.refl _) O)))
      refine AQ.cons O ?_ ?_
      ·
       intro mq hh o
       have hsN:=o.st j
       exact LF.q 1 (QF.fao O Ra O (AE (AC (An.refl _) O)))
      refine AQ.cons O ?_ ?_
      ·
       intro mq hh o
       intro ii eh
       have hsN:=o.st j
       cases eh
       exact LF.q 1 (AI Af hsN O mh O AM O (AE (AC (An.refl _) ⟨O,ed⟩)))
      refine AQ.cons O ?_ ?_
      ·
       intro mq hh o
       have hsN:=o.st j
       exact LF.q 1 (QF.fao O RZ O (AE (AC (An.refl _) O)))
      refine AQ.cons O ?_ ?_
      ·
       intro mq hh o
       intro ij ei
       have hsN:=o.st j
       cases ei
       exact LF.q 1 (AI Af hsN O mh O AM O (AE (AC (An.refl _) ⟨O,ee⟩)))
      refine AQ.cons O ?_ ?_
      ·
       intro mq hh o
       have hsN:=o.st j
       exact LF.q 1 (QF.fao O RY O (AE (AC (An.refl _) O)))
      refine AQ.cons O ?_ ?_
      ·
       intro mq hh o
       intro ik ej
       have hsN:=o.st j
       cases ej
       refine LF.q 1 (AI Af hsN O mh O KB O (AE ?_))
       have ek:=bt.mono' (bu.trans (o.ext j.1))
       exact AC (An.refl _) ek
      refine AQ.cons O ?_ ?_
      ·
       intro mq hh o
       intro el ac
       have hsN:=SN.st j o
       have ac:=Sl.mono' (S':=(SN bp ef hh)) ac ⟨λb hb=> .inl hb,λ_ _=>rfl,Nat.le_refl _⟩
       have ac:Sl _ _ AW.int el A.Part:=ac
       refine LF.callb O O O Ro O hsN (HD (St.all _) (ac.mono (λb hb=>hsN.1 b hb) (λ_ _=>rfl)) co) λil im io hc ip bw p=>?_
       obtain⟨rfl,em,hd⟩:=p
       exact AC ⟨bw.siz,λb hb=>bw.same b hb⟩ ⟨O,em⟩
      refine AQ.cons O ?_ ?_
      ·
       intro mq hh o
       intro ir en
       have hsN:=SN.st j o
       obtain⟨rfl,eo⟩:=en
       refine LF.callb O O O It O hsN (Db (St.all _) eo cp) λit iu iv he iw bx p=>?_
       obtain⟨rfl,⟨ep,eq⟩,hg⟩:=p
       exact AC ⟨bx.siz,λb hb=>bx.same b hb⟩ ⟨O,ep,eq⟩
      exact trivial
     intro iy bz iz er i0 es i1 et i2 eu
     have cq:=SN.st j bz
     cases er
     obtain⟨rfl,ev⟩:=es
     obtain⟨rfl,ew⟩:=et
     obtain⟨rfl,ey,ez⟩:=eu
     have cr:=cq.pick (.tail .head)
     obtain⟨an,ct,E⟩:=bd E
     refine LF.call O O O WD O (Lm cr ev ew (AH.mk (x:=ab) ⟨ey,ez⟩) ct) λi3 i4 i5 e0 p=>?_
     have a3:=p
     refine LF.q 1 (QF.fao O Gt O (AE ?_))
     obtain⟨ah,X,rfl,i6⟩:=a3.oslen mh
     refine G2 (vs:=[(.slice ah an.length X)]) (cs':=[.int .i64 c.Hour,z,(.slice ah an.length X),.slice none 0 0]) O O O O Jf O a3 (.tail (.tail (.tail .head))) O O λi7 cu e1=>LF.nil (kp [33,32,5,4,3,34] O) (Ap (WF.rp (.inl O) (QF.addw O O O (QF.mv O O (AA (kp [34,33,32,5,4,3] O) (WF.nil (λaa ww hf hw=>?_)))))))
     have cv:=cu.sel [0,1,1,1] 1 O
     have cw:=a1.trans (bq.trans (bu.trans ((SN.ext j.1 bz).trans (e0.trans e1))))
     exact⟨(A3 (J+1)),(.slice ah an.length X),an,_,_,hf.sub (kp [33,32,5,4,3,34] O),hw,cv,cw,(BA _),E⟩
    ·
     have E:=A8 a2 E
     refine WF.exit O (λaa ww hf hw=>?_)
     exact⟨Z,ak,_,_,hf.sub (kp [5,4,3] O),hw,ag,a1,E⟩
  ·
   rintro aa ww ⟨y,G,a4,a5,hf,hw,a6,b0,E⟩
   refine WF.run ?_ hf hw
   clear hf hw ww aa
   rw[IE] at E
   refine WF.seq (WF.seq (WF.rp (.inl O) ?_))
   have e2:=bm.mono b0
   refine QF.fa O e2 Ia On O λi8 e3=>QF.ldl Af a6.1 O e3 Sr O λb1 b2=>QF.len O b2 Q8 O λi9=>QF.mv O O (AA (kp [54,53,52,5,4] O) (WF.blockJ (λa w=>∃(K:Value) (ao:List AS),IV B a4 a5 (75,[]) a w [(5,.pointer (some ⟨u,0,none⟩)),(4,.pointer (some ⟨C,0,none⟩))] (OS Aa 97 K ao::OS BO 93 y G::OS AH 51 z H::Bx u 36 [.int .i64 c.Hour,z,y,K]::Bx C 36 [.int .i64 0,.slice none 0 0,.slice none 0 0,.slice none 0 0]::L) λ_ _=>ID N c H G ao=some r) ?_ ?_))
   ·
    refine WF.loopF (λn5=>λa w=>∃(M:Int) (ae:Value) (D:List AS),IV B a4 a5 (75,[]) a w [(53,.int .i64 (↑c.Gates.length:Int)),(52,b1),(5,.pointer (some ⟨u,0,none⟩)),(4,.pointer (some ⟨C,0,none⟩)),(54,.int .i64 M)] (OS Aa 97 ae D::OS BO 93 y G::OS AH 51 z H::Bx u 36 [.int .i64 c.Hour,z,y,ae]::Bx C 36 [.int .i64 0,.slice none 0 0,.slice none 0 0,.slice none 0 0]::L) λ_ _=>AB M∧HK N c (ID N c H G) n5 M D=some r) N ?_ ?_ ?_
    ·
     intro aa ww hf hw
     have cx:=a6.nil Aa 97
     exact⟨0,(.slice none 0 0),([]),_,_,hf.sub (kp [53,52,5,4,54] O),hw,cx,(Bg.refl a4 a5),(iq (n:=0) O),E⟩
    ·
     rintro aa ww ⟨_,_,_,_,_,_,_,_,_,_,E⟩
     rw[HK] at E;cases E
    ·
     rintro n5 aa ww ⟨M,ae,D,e4,ja,hf,hw,ai,a7,jb,E⟩
     refine WF.run ?_ hf hw
     clear hf hw ww aa
     rw[HK] at E
     refine WF.seq (WF.rp (.inl O) (QF.lss O O O (AA (kp [55,53,52,5,4,54] O) (WF.seq (WF.if_ O (λa8=>?_) (λa8=>?_))))))
     ·
      have E:=A7 a8 E
      refine WF.skip (WF.seq (WF.block (WF.seq (WF.rl (LF.q 2 ?_)))))
      have e6:=b2.mono' a7
      obtain⟨g,cy,E⟩:=bd E
      refine QF.ixe O O e6 Q8 cy O λjc e7=>QF.ld Af ai.1 O e7 HC (λe=>by cases e) O λjd e8=>AE (LF.al PM O ai λap je cz b3=>?_)
      have e9:=e8.mono b3
      obtain⟨rfl,⟨fb,fc⟩⟩:=D9.ex e9
      refine Ai (vs:=[.int .i64 g.Pos,.int .i64 g.Target,.bool g.Stuck,.bool g.Open]) O O O O HC O cz .head O λfd d fe=>LF.nil (kp [11,53,52,5,4,54] O) ?_
      obtain⟨k,c0,E⟩:=bd E
      obtain⟨b4,c1,E⟩:=bd E
      obtain⟨s,c2,E⟩:=bd E
      refine IX (m:=[(11,.pointer (some ⟨ap,0,none⟩)),(53,.int .i64 (↑c.Gates.length:Int)),(52,b1),(5,.pointer (some ⟨u,0,none⟩)),(4,.pointer (some ⟨C,0,none⟩)),(54,.int .i64 M)]) 13 (λi v hh=>match i with|0=>v= .pointer (some ⟨u,3,none⟩)|1=>v=ae|2=>v= .pointer (some ⟨ap,0,none⟩)|3=>v= .int .i64 g.Pos∧AB g.Pos|4=>v= .agg #[.int .i64 k.Lo,.int .i64 k.Hi]∧AB k.Lo∧AB k.Hi|5=>v= .pointer (some ⟨ap,1,none⟩)|6=>v= .int .i64 g.Target∧AB g.Target|7=>v= .pointer (some ⟨ap,3,none⟩)|8=>v= .bool g.Open|9=>v= .int .i64 b4∧AB b4|10=>v= .agg #[.int .i64 s.Lo,.int .i64 s.Hi]∧AB s.Lo∧AB s.Hi|11=>v= .agg #[.int .i64 k.Lo,.int .i64 k.Hi,.int .i64 g.Target,.int .i64 s.Lo,.int .i64 s.Hi]∧AB k.Lo∧AB k.Hi∧AB g.Target∧AB s.Lo∧AB s.Hi|12=>Sl (SN e4 fd hh) hh Aa v ([(⟨k,g.Target,s⟩:AS)]:List AS)∧∃ad,v= .slice (some ad) 1 1|_=>False) [[],[(0,58)],[],[(2,60)],[(3,61)],[],[(5,63)],[],[(7,65)],[(8,66)],[(9,67)],[(4,62),(6,64),(10,68)],[(11,69)]] [(1,59),(12,70)] mo (by kernel_rfl) [11,53,52,5,4,54] O (by kernel_rfl) (by kernel_rfl) (by kernel_rfl) (kp [11,53,52,5,4,54] O) (λi v h1 h2 o1 o2 hr=>?_) ?_ ?_
      ·match i,hr with
        |0,hr=>exact hr
        |1,hr=>exact hr
        |2,hr=>exact hr
        |3,hr=>exact hr
        |4,hr=>exact hr
        |5,hr=>exact hr
        |6,hr=>exact hr
        |7,hr=>exact hr
        |8,hr=>exact hr
        |9,hr=>exact hr
        |10,hr=>exact hr
        |11,hr=>exact hr
        |12,hr=>exact⟨Sl.mono' hr.1 (SN.mono d.1 o1 o2),hr.2⟩
        |_+13,hr=>exact hr.elim
      ·
       refine AQ.cons O ?_ ?_
       ·
        intro mq hh o
        have hsN:=o.st d
        exact LF.q 1 (QF.fao O FJ O (AE (AC (An.refl _) O)))
       refine AQ.cons O ?_ ?_
       ·
        intro mq hh o
        intro jf ff
        have hsN:=o.st d
        cases ff
        exact LF.q 1 (AI Af hsN O (mt (mt (mt (mt mh)))) O Hp O (AE (AC (An.refl _) O)))
       refine AQ.cons O ?_ ?_
       ·
        intro mq hh o
        have hsN:=o.st d
        exact LF.q 1 (QF.fao O Ls O (AE (AC (An.refl _) O)))
       refine AQ.cons O ?_ ?_
       ·
        intro mq hh o
        intro jg fg
        have hsN:=o.st d
        cases fg
        exact LF.q 1 (AI Af hsN O mh O AM O (AE (AC (An.refl _) ⟨O,fb⟩)))
       refine AQ.cons O ?_ ?_
       ·
        intro mq hh o
        intro jh fh
        have hsN:=SN.st d o
        obtain⟨rfl,fi⟩:=fh
        refine LF.callb O O O It O hsN (Db (St.all _) fi c0) λji jj jk hi jl b5 p=>?_
        obtain⟨rfl,⟨fj,fk⟩,hj⟩:=p
        exact AC ⟨b5.siz,λb hb=>b5.same b hb⟩ ⟨O,fj,fk⟩
       refine AQ.cons O ?_ ?_
       ·
        intro mq hh o
        have hsN:=o.st d
        exact LF.q 1 (QF.fao O Om O (AE (AC (An.refl _) O)))
       refine AQ.cons O ?_ ?_
       ·
        intro mq hh o
        intro jm fl
        have hsN:=o.st d
        cases fl
        exact LF.q 1 (AI Af hsN O mh O AM O (AE (AC (An.refl _) ⟨O,fc⟩)))
       refine AQ.cons O ?_ ?_
       ·
        intro mq hh o
        have hsN:=o.st d
        exact LF.q 1 (QF.fao O M3 O (AE (AC (An.refl _) O)))
       refine AQ.cons O ?_ ?_
       ·
        intro mq hh o
        intro jn fm
        have hsN:=o.st d
        cases fm
        exact LF.q 1 (AI Af hsN O mh O LV O (AE (AC (An.refl _) O)))
       refine AQ.cons O ?_ ?_
       ·
        intro mq hh o
        intro jo fn
        have hsN:=SN.st d o
        cases fn
        refine LF.callb O O O WC O hsN (Ll (St.all _) c1) λjp jq jr hk js b6 p=>?_
        obtain⟨rfl,fo,hl⟩:=p
        exact AC ⟨b6.siz,λb hb=>b6.same b hb⟩ ⟨O,fo⟩
       refine AQ.cons O ?_ ?_
       ·
        intro mq hh o
        intro jt fp
        have hsN:=SN.st d o
        obtain⟨rfl,fq⟩:=fp
        refine LF.callb O O O It O hsN (Db (St.all _) fq c2) λju jv jw hm jx b7 p=>?_
        obtain⟨rfl,⟨fr,fs⟩,hn⟩:=p
        exact AC ⟨b7.siz,λb hb=>b7.same b hb⟩ ⟨O,fr,fs⟩
       refine AQ.cons O ?_ ?_
       ·
        intro mq hh o
        intro jy ft jz fu j0 fv
        have hsN:=o.st d
        obtain⟨rfl,fw,fx⟩:=ft
        obtain⟨rfl,fy⟩:=fu
        obtain⟨rfl,f0,f1⟩:=fv
        exact LF.q 1 (QF.bld (cs:=[.int .i64 k.Lo,.int .i64 k.Hi,.int .i64 g.Target,.int .i64 s.Lo,.int .i64 s.Hi]) Xy O O O (AE (AC (An.refl _) ⟨O,fw,fx,fy,f0,f1⟩)))
       refine AQ.cons O ?_ ?_
       ·
        intro mq hh o
        intro j1 f2
        have hsN:=SN.st d o
        obtain⟨rfl,f3,f4,f5,f6,f7⟩:=f2
        have hsF:=hsN.fz
        refine GY (cs:=[.int .i64 k.Lo,.int .i64 k.Hi,.int .i64 g.Target,.int .i64 s.Lo,.int .i64 s.Hi]) Rk O O O O O O O hsF λj2 j3 c3 f8=>?_
        have c4:=c3.bxos (r:=Aa) (l:=([(⟨k,g.Target,s⟩:AS)]:List AS)) .head ⟨_,_,O,⟨O,⟨f3,f4,f5,f6,f7⟩⟩,O⟩ (by simp [maxLen])
        obtain⟨j4,c5,f9,ga⟩:=c4.pubs .head
        have a9:=Fz.done o (f8.trans f9) c5
        exact AC a9.1 ⟨Sl.mono' ga a9.2,_,O⟩
       exact trivial
      intro j5 b8 j6 gb j7 ba
      have c6:=SN.st d b8
      cases gb
      obtain⟨ba,ho,rfl⟩:=ba
      obtain⟨c7,E⟩:=O1 E
      refine Kx (r:=Aa) (l:=D) (xs:=([(⟨k,g.Target,s⟩:AS)]:List AS)) O O Rk O (Sl.src ba) O c7 O c6 (λ_=>(.tail .head)) λj8 j9 bb gc=>LF.q 1 (QF.fao O FJ O (AE ?_))
      obtain⟨aj,Y,rfl,ka⟩:=bb.oslen (mt mh)
      refine G2 (vs:=[(.slice aj (D++([(⟨k,g.Target,s⟩:AS)]:List AS)).length Y)]) (cs':=[.int .i64 c.Hour,z,y,(.slice aj (D++([(⟨k,g.Target,s⟩:AS)]:List AS)).length Y)]) O O O O Hp O bb (.tail (.tail (.tail (.tail .head)))) O O λkb c8 ge=>LF.nil (kp [53,52,5,4,54] O) (Ap (WF.rp (.inl O) (QF.addw O O O (QF.mv O O (AA (kp [54,53,52,5,4] O) (WF.nil (λaa ww hf hw=>?_)))))))
      have c9:=c8.sel [1,1,1,1,1] 1 O
      have da:=a7.trans (b3.trans (fe.trans ((SN.ext d.1 b8).trans (gc.trans ge))))
      exact⟨(A3 (M+1)),(.slice aj (D++([(⟨k,g.Target,s⟩:AS)]:List AS)).length Y),(D++([(⟨k,g.Target,s⟩:AS)]:List AS)),_,_,hf.sub (kp [53,52,5,4,54] O),hw,c9,da,(BA _),E⟩
     ·
      have E:=A8 a8 E
      refine WF.exit O (λaa ww hf hw=>?_)
      exact⟨ae,D,_,_,hf.sub (kp [5,4] O),hw,ai,a7,E⟩
   ·
    rintro aa ww ⟨K,ao,kc,kd,hf,hw,I,gf,E⟩
    refine WF.run ?_ hf hw
    clear hf hw ww aa
    rw[ID] at E
    refine WF.seq (WF.rl (LF.q 1 (QF.ldo (vs:=[.int .i64 c.Hour,z,y,K]) Af I O (mt (mt (mt mh))) O O FG O O (AE (LF.st (vs:=[.int .i64 c.Hour,z,y,K]) (cs':=[.int .i64 c.Hour,z,y,K]) O O O (AD O (AD (I.osone (mt (mt mh))) (AD (I.osone (mt mh)) (AD (I.osone mh) EI)))) FG O I (.tail (.tail (.tail (.tail .head)))) O O λke db gg=>LF.nil (kp [4] O) (WF.ret (λaa ww hf hw=>?_)))))))
    obtain⟨kf,dc,gh,gi⟩:=db.pubs (.tail (.tail .head))
    obtain⟨kg,dd,b9,gj⟩:=dc.pubs (.tail .head)
    obtain⟨kh,de,bc,gk⟩:=dd.pubs .head
    have be:=de.sel [1] 1 O
    have gl:=gi.mono' (b9.trans bc)
    have gm:=gj.mono' bc
    have df:=be.drop .head
    cases E
    have dg:=e5.trans (gq.trans (di.trans (dl.trans (dm.trans (bl.trans (b0.trans (gf.trans (gg.trans (gh.trans (b9.trans bc))))))))))
    exact Hq hf O hw (Gr (MA hf hw be O mh FG O) HY) O dg ⟨(CE.mk (x:=(⟨c.Hour,H,G,ao⟩:Al)) gu gl gm gk),df⟩
theorem J0 (hs:St S L h) {r:Bool}(E:Ed N=some r):
 Bh Tryz.prog 8 #[] S h (λv S' h'=>v= .bool r∧St S' (L) h'):=by
 refine Ag (l:=[]) 108 Tryz.func8 O Tryz.ntmps8 O λB=>?_
 rw[Ed] at E
 refine WF.seq (WF.rp (.inl O) (QF.as_ O O (AA J6 (WF.seq (WF.rl (LF.q 1 (QF.bld (cs:=[.int .i64 0,.int .i64 0]) Xz O O O (AE (GY (cs:=[.int .i64 0,.int .i64 0]) Yi O O O O O O O hs λb1 h2 xc e4=>GY (cs:=[.int .i64 100]) Lw O O O O O O O xc λb5 h6 xd e8=>LF.q 1 ?_)))))))))
 have xe:=xd.bxos (r:=BH) (l:=([(⟨0,0⟩:AX)]:List AX)) (.tail .head) ⟨_,_,O,⟨O,⟨(iq (n:=0) O),(iq (n:=0) O)⟩⟩,O⟩ (by simp [maxLen])
 obtain⟨gac,kb,kc,xf⟩:=xe.pubs (.tail .head)
 have kd:=kb.bxos (r:=AW.int) (l:=([100]:List Int)) .head ⟨_,_,O,⟨O,(iq (n:=100) O)⟩,O⟩ (by simp [maxLen])
 obtain⟨gad,ke,dt,xg⟩:=kd.pubs .head
 refine QF.bld (cs:=[.string (ByteArray.mk #[112]),.int .i64 0,.int .i64 2,.int .i64 120,(.slice (some ⟨b1,0,none⟩) 1 1),(.slice (some ⟨b5,0,none⟩) 1 1),.int .i64 1,.int .i64 10,.int .i64 (-1),.int .i64 0,.int .i64 0,.slice none 0 0]) X1 O O O (AE (LF.al MW O ke λxh gae kf b8=>Ai (vs:=[.string (ByteArray.mk #[112]),.int .i64 0,.int .i64 2,.int .i64 120,(.slice (some ⟨b1,0,none⟩) 1 1),(.slice (some ⟨b5,0,none⟩) 1 1),.int .i64 1,.int .i64 10,.int .i64 (-1),.int .i64 0,.int .i64 0,.slice none 0 0]) O O O O HS O kf .head O λgaf kg b9=>LF.nil (kp [1] O) (WF.seq (WF.rl (GY (cs:=[.string (ByteArray.mk #[97])]) Yk O O O O O O O kg λU gag c6 ca=>LF.q 1 (QF.ldo (vs:=[.string (ByteArray.mk #[112]),.int .i64 0,.int .i64 2,.int .i64 120,(.slice (some ⟨b1,0,none⟩) 1 1),(.slice (some ⟨b5,0,none⟩) 1 1),.int .i64 1,.int .i64 10,.int .i64 (-1),.int .i64 0,.int .i64 0,.slice none 0 0]) Af c6 O (mt mh) O O HS O O (AE (GY (cs:=[.string (ByteArray.mk #[112]),.int .i64 0,.int .i64 2,.int .i64 120,(.slice (some ⟨b1,0,none⟩) 1 1),(.slice (some ⟨b5,0,none⟩) 1 1),.int .i64 1,.int .i64 10,.int .i64 (-1),.int .i64 0,.int .i64 0,.slice none 0 0]) Yj O O O O O O O c6 λV gah kh cb=>GY (cs:=[.int .i64 0,.int .i64 0,.int .i64 0]) Lw O O O O O O O kh λW gai ki cc=>?_))))))))
 refine LF.q 1 ?_
 have kj:=ki.bxos (r:=AW.str) (l:=([(ByteArray.mk #[97])]:List ByteArray)) (.tail (.tail .head)) ⟨_,_,O,⟨O,(by decide)⟩,O⟩ (by simp [maxLen])
 obtain⟨gaj,kk,cd,av⟩:=kj.pubs (.tail (.tail .head))
 have kl:=dt.trans (b8.trans (b9.trans (ca.trans (cb.trans (cc.trans cd)))))
 have xi:=xf.mono' kl
 have km:=b8.trans (b9.trans (ca.trans (cb.trans (cc.trans cd))))
 have xj:=xg.mono' km
 have kn:=kk.bxos (r:=BF) (l:=Cc) (.tail .head) ⟨_,_,O,⟨_,_,_,O,(by decide),(iq (n:=0) O),(iq (n:=2) O),(iq (n:=120) O),xi,xj,(iq (n:=1) O),(iq (n:=10) O),(iq (n:=(-1)) O),(iq (n:=0) O),(iq (n:=0) O),(.inl ⟨O,O⟩)⟩,O⟩ (by simp [maxLen,Cc])
 obtain⟨gak,ko,au,aw⟩:=kn.pubs (.tail .head)
 have kq:=ko.bxos (r:=AW.int) (l:=([0,0,0]:List Int)) .head ⟨_,_,O,⟨O,(iq (n:=0) O)⟩,⟨_,_,O,⟨O,(iq (n:=0) O)⟩,⟨_,_,O,⟨O,(iq (n:=0) O)⟩,O⟩⟩⟩ (by simp [maxLen])
 obtain⟨gal,kr,Y,ax⟩:=kq.pubs .head
 refine QF.bld (cs:=[.string (ByteArray.mk #[98]),(.slice (some ⟨U,0,none⟩) 1 1),.int .i64 0,(.slice (some ⟨V,0,none⟩) 1 1),.slice none 0 0,.slice none 0 0,.slice none 0 0,.slice none 0 0,.slice none 0 0,(.slice (some ⟨W,0,none⟩) 3 3),.int .i64 0]) X3 O O O (AE (LF.al Xo O kr λa9 gam ks C=>Ai (vs:=[.string (ByteArray.mk #[98]),(.slice (some ⟨U,0,none⟩) 1 1),.int .i64 0,(.slice (some ⟨V,0,none⟩) 1 1),.slice none 0 0,.slice none 0 0,.slice none 0 0,.slice none 0 0,.slice none 0 0,(.slice (some ⟨W,0,none⟩) 3 3),.int .i64 0]) O O O O ET O ks .head O λgan kt D=>LF.nil (kp [2] O) (WF.seq (WF.rl (LF.q 1 (QF.bld (cs:=[.int .i64 100,.int .i64 150]) GH O O O (AE (GY (cs:=[.int .i64 100,.int .i64 150]) Na O O O O O O O kt λZ gao ku F=>LF.q 1 ?_))))))))
 have kv:=ku.bxos (r:=AH) (l:=([(⟨100,150⟩:AF)]:List AF)) .head ⟨_,_,O,⟨O,⟨(iq (n:=100) O),(iq (n:=150) O)⟩⟩,O⟩ (by simp [maxLen])
 obtain⟨gap,kw,G,ay⟩:=kv.pubs .head
 refine QF.bld (cs:=[.int .i64 0,(.slice (some ⟨Z,0,none⟩) 1 1),.slice none 0 0,.slice none 0 0]) V2 O O O (AE (LF.al N0 O kw λba gaq kx u=>Ai (vs:=[.int .i64 0,(.slice (some ⟨Z,0,none⟩) 1 1),.slice none 0 0,.slice none 0 0]) O O O O FG O kx .head O λgar bl y=>LF.nil (kp [3,2] O) (WF.seq (WF.rl (LF.q 3 (QF.ldo (vs:=[.string (ByteArray.mk #[98]),(.slice (some ⟨U,0,none⟩) 1 1),.int .i64 0,(.slice (some ⟨V,0,none⟩) 1 1),.slice none 0 0,.slice none 0 0,.slice none 0 0,.slice none 0 0,.slice none 0 0,(.slice (some ⟨W,0,none⟩) 3 3),.int .i64 0]) Af bl O (mt mh) O O ET O O (QF.ldo (vs:=[.int .i64 0,(.slice (some ⟨Z,0,none⟩) 1 1),.slice none 0 0,.slice none 0 0]) Af bl O mh O O FG O O (QF.bld (cs:=[.slice none 0 0,.slice none 0 0,.slice none 0 0,.slice none 0 0,.slice none 0 0]) X2 O O O (AE ?_)))))))))
 have c7:=au.trans (Y.trans (C.trans (D.trans (F.trans (G.trans (u.trans y))))))
 have xk:=av.mono' c7
 have c8:=Y.trans (C.trans (D.trans (F.trans (G.trans (u.trans y)))))
 have xl:=aw.mono' c8
 have c9:=C.trans (D.trans (F.trans (G.trans (u.trans y))))
 have xm:=ax.mono' c9
 have xn:=ay.mono' (u.trans y)
 obtain⟨t,ky,E⟩:=bd E
 refine LF.call O O O WH O (K8 bl (BG.mk (x:=(⟨(ByteArray.mk #[98]),([(ByteArray.mk #[97])]:List ByteArray),0,Cc,[],[],[],[],[],([0,0,0]:List Int),0⟩:AK)) (by decide) xk (iq (n:=0) O) xl (.inl ⟨O,O⟩) (.inl ⟨O,O⟩) (.inl ⟨O,O⟩) (.inl ⟨O,O⟩) (.inl ⟨O,O⟩) xm (iq (n:=0) O)) (CE.mk (x:=(⟨0,([(⟨100,150⟩:AF)]:List AF),[],[]⟩:Al)) (iq (n:=0) O) xn (.inl ⟨O,O⟩) (.inl ⟨O,O⟩)) (E0.mk (x:=(⟨[],[],[],[],[]⟩:C7)) (.inl ⟨O,O⟩) (.inl ⟨O,O⟩) (.inl ⟨O,O⟩) (.inl ⟨O,O⟩) (.inl ⟨O,O⟩)) (.inl ⟨O,O⟩:Sl _ _ AW.bool _ []) (.inl ⟨O,O⟩:Sl _ _ AH _ []) ky) λgas gat gau z p=>?_
 obtain⟨gav,xo,xp,rfl,xq,kz⟩:=p
 refine LF.q 4 (QF.mv O O (QF.ext O O O (QF.ext O O O (QF.ext O O O (AE (LF.al N0 O kz λxr gaw du j=>?_))))))
 have k0:=xq.mono j
 obtain⟨bm,bn,bo,rfl,z1,bp,da,k1⟩:=CE.ex k0
 refine LF.st (vs:=[.int .i64 t.1.Hour,bm,bn,bo]) (cs':=[.int .i64 t.1.Hour,bm,bn,bo]) O O O (AD O (AD bp.one (AD da.one (AD k1.one EI)))) FG O du .head O O λz2 bq g=>LF.q 2 (QF.as_ O O (QF.as_ O O (AE (LF.nil (kp [6,5,4,3,2] O) (WF.seq (WF.rl (LF.q 1 (QF.ldo (vs:=[.string (ByteArray.mk #[98]),(.slice (some ⟨U,0,none⟩) 1 1),.int .i64 0,(.slice (some ⟨V,0,none⟩) 1 1),.slice none 0 0,.slice none 0 0,.slice none 0 0,.slice none 0 0,.slice none 0 0,(.slice (some ⟨W,0,none⟩) 3 3),.int .i64 0]) Af bq O (mt (mt (mt (mt mh)))) O O ET O O (AE ?_)))))))))
 have dv:=c7.trans (z.trans (j.trans g))
 have k2:=av.mono' dv
 have dw:=c8.trans (z.trans (j.trans g))
 have k3:=aw.mono' dw
 have dx:=c9.trans (z.trans (j.trans g))
 have k4:=ax.mono' dx
 obtain⟨A,dy,E⟩:=bd E
 refine LF.call O O O ZA O (NB bq (BG.mk (x:=(⟨(ByteArray.mk #[98]),([(ByteArray.mk #[97])]:List ByteArray),0,Cc,[],[],[],[],[],([0,0,0]:List Int),0⟩:AK)) (by decide) k2 (iq (n:=0) O) k3 (.inl ⟨O,O⟩) (.inl ⟨O,O⟩) (.inl ⟨O,O⟩) (.inl ⟨O,O⟩) (.inl ⟨O,O⟩) k4 (iq (n:=0) O)) (iq (n:=0) O) dy) λz3 bg z4 s p=>?_
 obtain⟨k5,dz⟩:=p
 refine LF.al Sb O dz λa5 z5 d0 k=>?_
 have k6:=k5.mono k
 obtain⟨ac,ad,ae,af,ag,ah,rfl,a6,az,a0,a1,a2,a3,a4⟩:=EM.ex k6
 refine LF.st (vs:=[.int .i64 A.Hour,ac,ad,ae,af,ag,ah]) (cs':=[.int .i64 A.Hour,ac,ad,ae,af,ag,ah]) O O O (AD O (AD az.one (AD a0.one (AD a1.one (AD a2.one (AD a3.one (AD a4.one EI))))))) I6 O d0 .head O O λbh c d=>LF.nil (kp [7,6,5,4,3,2] O) (WF.seq (WF.seq (WF.rp (.inl O) (QF.mv O O (QF.leno c (mt (mt mh)) O DY O λz6=>QF.neq O O O (QF.mv O O (QF.cutv 4 38 (.bool ((decide ((↑t.2.1.length:Int)≠1))||(decide ((↑t.2.2.length:Int)≠1)))) ?_ ?_)))))))
 ·
  cases z7:(decide ((↑t.2.1.length:Int)≠1))
  ·exact QF.gy O O O (QF.mv O O (QF.gy O O O (QF.leno c (mt (mt (mt mh))) O DY O λz8=>QF.gy O O O (QF.neq O O O (QF.pick O O O (AJ O))))))
  ·exact AL O O
 refine QF.mv O O (QF.cutv 5 44 (.bool (((decide ((↑t.2.1.length:Int)≠1))||(decide ((↑t.2.2.length:Int)≠1)))||(decide ((↑t.1.Vol.length:Int)≠1)))) ?_ ?_)
 ·
  cases z9:((decide ((↑t.2.1.length:Int)≠1))||(decide ((↑t.2.2.length:Int)≠1)))
  ·
   refine QF.gy O O O (QF.fao O FV O (QF.gy O O O (AI Af c O (mt mh) O FH O (QF.gy O O O ?_))))
   have d1:=g.trans (s.trans (k.trans d))
   have k7:=bp.mono' d1
   exact QF.len O k7 DY O λaaa=>QF.gy O O O (QF.neq O O O (QF.pick O O O (AJ O)))
  ·exact AL O O
 refine AA (kp [44,7,6,5,4,3,2] O) (WF.if_ O (λbr=>?_) (λbr=>?_))
 ·
  have E:=A7 br E
  refine WF.seq (WF.rp (.inl O) (QF.as_ O O (AA (kp [0] O) (WF.ret (λaa ww hf hw=>?_)))))
  have d2:=c.sel [] 7 O
  cases E
  have d3:=e4.trans (e8.trans (kc.trans (dt.trans (b8.trans (b9.trans (ca.trans (cb.trans (cc.trans (cd.trans (au.trans (Y.trans (C.trans (D.trans (F.trans (G.trans (u.trans (y.trans (z.trans (j.trans (g.trans (s.trans (k.trans d))))))))))))))))))))))
  exact DC hf hw O O d3 ⟨O,d2⟩
 ·
  have E:=A8 br E
  refine WF.skip (WF.seq (WF.rp (.inl O) (QF.mv O O ?_)))
  obtain⟨aab,d4,E⟩:=bd E
  refine QF.ixoe c (mt (mt mh)) O O DY d4 O λaac d5=>?_
  obtain⟨k8,d6,E⟩:=bd E
  have k9:=c.epAt (mt (mt mh)) d6 ED.id d5
  refine QF.ld Af (λ_ x=>x) O k9 Ad (λe=>by cases e) O λaad la=>QF.bld (cs:=[.int .i64 100,.int .i64 150]) GH O O O ?_
  obtain⟨rfl,⟨aae,aaf⟩⟩:=AH.ex la
  refine QF.eqs O O Mk O O O O (QF.mv O O ?_)
  obtain⟨db,ak,E⟩:=bd E
  refine QF.cutv 6 56 (.bool db) ?_ ?_
  ·
   cases dc:(ML k8.v (⟨100,150⟩:AF).v)
   ·
    have ak:=A8 dc ak
    cases ak
    exact AL O O
   ·
    have ak:=A7 dc ak
    refine QF.gy O O O (QF.mv O O (QF.gy O O O ?_))
    obtain⟨aag,d7,ak⟩:=bd ak
    refine QF.ixoe c (mt (mt (mt mh))) O O DY d7 O λaah d8=>QF.gy O O O ?_
    obtain⟨aai,d9,ak⟩:=bd ak
    have lb:=c.epAt (mt (mt (mt mh))) d9 ED.id d8
    refine QF.ld Af (λ_ x=>x) O lb Ad (λe=>by cases e) O λaaj lc=>QF.gy O O O (QF.bld (cs:=[.int .i64 0,.int .i64 17]) GH O O O (QF.gy O O O ?_))
    obtain⟨rfl,⟨aak,aal⟩⟩:=AH.ex lc
    refine QF.eqs O O Mk O O O O (QF.pick O O O ?_)
    cases ak
    exact AJ O
  refine QF.mv O O ?_
  obtain⟨I,ao,E⟩:=bd E
  refine QF.cutv 7 64 (.bool I) ?_ ?_
  ·
   cases dd:db
   ·
    have ao:=A8 dd ao
    cases ao
    exact AL O O
   ·
    have ao:=A7 dd ao
    refine QF.gy O O O (QF.fao O FV O (QF.gy O O O (AI Af c O (mt mh) O FH O (QF.gy O O O ?_))))
    have ea:=g.trans (s.trans (k.trans d))
    have le:=bp.mono' ea
    obtain⟨aam,eb,ao⟩:=bd ao
    refine QF.ixe O O le DY eb O λaan lf=>QF.gy O O O (QF.ld Af c.1 O lf Ad (λe=>by cases e) O λaao lg=>QF.gy O O O (QF.bld (cs:=[.int .i64 88,.int .i64 120]) GH O O O (QF.gy O O O ?_)))
    obtain⟨rfl,⟨aap,aaq⟩⟩:=AH.ex lg
    refine QF.eqs O O Mk O O O O (QF.pick O O O ?_)
    cases ao
    exact AJ O
  refine QF.mv O O (QF.cutv 4 69 (.bool (I&&(decide (t.1.Hour=1)))) ?_ ?_)
  ·
   cases aar:I
   ·exact AL O O
   ·exact QF.gy O O O (QF.fao O Gu O (QF.gy O O O (AI Af c O (mt mh) O AM O (QF.gy O O O (QF.eql O O O (QF.pick O O O (AJ O)))))))
  refine QF.mv O O (QF.cutv 5 75 (.bool ((I&&(decide (t.1.Hour=1)))&&(decide ((↑t.1.Queue.length:Int)=0)))) ?_ ?_)
  ·
   cases aas:(I&&(decide (t.1.Hour=1)))
   ·exact AL O O
   ·
    refine QF.gy O O O (QF.fao O Gt O (QF.gy O O O (AI Af c O (mt mh) O Jf O (QF.gy O O O ?_))))
    have ec:=g.trans (s.trans (k.trans d))
    have lh:=da.mono' ec
    exact QF.len O lh EU O λaat=>QF.gy O O O (QF.eql O O O (QF.pick O O O (AJ O)))
  refine QF.as_ O O (AA (kp [8,7,3,2] O) (WF.seq ?_))
  obtain⟨aau,ap,E⟩:=bd E
  obtain⟨aav,an,E⟩:=bd E
  obtain⟨aaw,am,E⟩:=bd E
  obtain⟨aax,ab,E⟩:=bd E
  obtain⟨li,X,E⟩:=bd E
  refine WF.cut (λa w=>IV B bg bh (108,[]) a w [(0,.bool li)] (Bx a5 71 [.int .i64 A.Hour,ac,ad,ae,af,ag,ah]::Bx xr 36 [.int .i64 t.1.Hour,bm,bn,bo]::OS AH 51 xo t.2.1::OS AH 51 xp t.2.2::Bx ba 36 [.int .i64 0,(.slice (some ⟨Z,0,none⟩) 1 1),.slice none 0 0,.slice none 0 0]::Bx a9 31 [.string (ByteArray.mk #[98]),(.slice (some ⟨U,0,none⟩) 1 1),.int .i64 0,(.slice (some ⟨V,0,none⟩) 1 1),.slice none 0 0,.slice none 0 0,.slice none 0 0,.slice none 0 0,.slice none 0 0,(.slice (some ⟨W,0,none⟩) 3 3),.int .i64 0]::Bx xh 57 [.string (ByteArray.mk #[112]),.int .i64 0,.int .i64 2,.int .i64 120,(.slice (some ⟨b1,0,none⟩) 1 1),(.slice (some ⟨b5,0,none⟩) 1 1),.int .i64 1,.int .i64 10,.int .i64 (-1),.int .i64 0,.int .i64 0,.slice none 0 0]::L) λ_ _=>True) ?_ ?_
  ·
   rcases ZE ((I&&(decide (t.1.Hour=1)))&&(decide ((↑t.1.Queue.length:Int)=0))) with H|H
   ·
    have ap:=A8 H ap
    have lj:=Option.some.inj ap
    subst lj
    have ll:=Option.some.inj an
    subst ll
    have lm:=Option.some.inj am
    subst lm
    have lo:=Option.some.inj ab
    subst lo
    have lp:=Option.some.inj X
    subst lp
    refine IX (m:=[(8,.bool ((I&&(decide (t.1.Hour=1)))&&(decide ((↑t.1.Queue.length:Int)=0)))),(7,.pointer (some ⟨a5,0,none⟩)),(3,.pointer (some ⟨ba,0,none⟩)),(2,.pointer (some ⟨a9,0,none⟩))]) 33 (λi v hh=>match i with|0=>v= .bool ((I&&(decide (t.1.Hour=1)))&&(decide ((↑t.1.Queue.length:Int)=0)))|1=>v= .bool ((I&&(decide (t.1.Hour=1)))&&(decide ((↑t.1.Queue.length:Int)=0)))|2=>v=undef|3=>v=undef|4=>v=undef|5=>v= .bool false|6=>v= .bool false|7=>v=undef|8=>v=undef|9=>v=undef|10=>v= .bool false|11=>v= .bool false|12=>v=undef|13=>v=undef|14=>v=undef|15=>v=undef|16=>v= .bool false|17=>v= .bool false|18=>v=undef|19=>v=undef|20=>v=undef|21=>v=undef|22=>v=undef|23=>v= .bool false|24=>v= .bool false|25=>v=undef|26=>v=undef|27=>v=undef|28=>v=undef|29=>v=undef|30=>v=undef|31=>v= .bool false|32=>v= .bool false|_=>False) [[],[(0,76)],[(1,77)],[(1,77)],[(1,77)],[(1,77),(4,80)],[(5,81)],[(6,82)],[(6,82)],[(6,82)],[(6,82),(9,85)],[(10,86)],[(11,87)],[(11,87)],[(11,87)],[(11,87)],[(11,87),(15,91)],[(16,92)],[(17,93)],[(17,93)],[(17,93)],[(17,93)],[(17,93)],[(17,93),(22,98)],[(23,99)],[(24,100)],[(24,100)],[(24,100)],[(24,100)],[(24,100)],[(24,100)],[(24,100),(30,106)],[(31,107)]] [(32,0)] mo (by kernel_rfl) [8,7,3,2] O (by kernel_rfl) (by kernel_rfl) (by kernel_rfl) (kp [8,7,3,2] O) (λi v h1 h2 o1 o2 hr=>?_) ?_ ?_
    ·match i,hr with
      |0,hr=>exact hr
      |1,hr=>exact hr
      |2,hr=>exact hr
      |3,hr=>exact hr
      |4,hr=>exact hr
      |5,hr=>exact hr
      |6,hr=>exact hr
      |7,hr=>exact hr
      |8,hr=>exact hr
      |9,hr=>exact hr
      |10,hr=>exact hr
      |11,hr=>exact hr
      |12,hr=>exact hr
      |13,hr=>exact hr
      |14,hr=>exact hr
      |15,hr=>exact hr
      |16,hr=>exact hr
      |17,hr=>exact hr
      |18,hr=>exact hr
      |19,hr=>exact hr
      |20,hr=>exact hr
      |21,hr=>exact hr
      |22,hr=>exact hr
      |23,hr=>exact hr
      |24,hr=>exact hr
      |25,hr=>exact hr
      |26,hr=>exact hr
      |27,hr=>exact hr
      |28,hr=>exact hr
      |29,hr=>exact hr
      |30,hr=>exact hr
      |31,hr=>exact hr
      |32,hr=>exact hr
      |_+33,hr=>exact hr.elim
    ·
     refine AQ.cons O ?_ ?_
     ·
      intro mq hh o
      have hsN:=o.st c
      exact LF.q 1 (QF.mv O O (AE (AC (An.refl _) O)))
     refine AQ.cons O ?_ ?_
     ·
      intro mq hh o
      intro aay lq
      have hsN:=o.st c
      cases lq
      exact LF.q 1 (QF.mv O O (AE (AC (An.refl _) O)))
     refine AQ.cons O ?_ ?_
     ·
      intro mq hh o
      intro lr ls
      have hsN:=o.st c
      obtain rfl:lr= .bool false:=Eq.trans ls (congrArg Value.bool H)
      exact⟨77,O,.inr ⟨_,O,(by simp [yb,undef]),O⟩⟩
     refine AQ.cons O ?_ ?_
     ·
      intro mq hh o
      intro lt lu
      have hsN:=o.st c
      obtain rfl:lt= .bool false:=Eq.trans lu (congrArg Value.bool H)
      exact⟨77,O,.inr ⟨_,O,(by simp [yb,undef]),O⟩⟩
     refine AQ.cons O ?_ ?_
     ·
      intro mq hh o
      intro lv lw
      have hsN:=SN.st c o
      obtain rfl:lv= .bool false:=Eq.trans lw (congrArg Value.bool H)
      exact⟨77,O,.inr ⟨_,O,(by simp [yb,undef]),O⟩⟩
     refine AQ.cons O ?_ ?_
     ·
      intro mq hh o
      intro lx ly aaz lz
      have hsN:=o.st c
      obtain rfl:lx= .bool false:=Eq.trans ly (congrArg Value.bool H)
      cases lz
      exact LF.q 1 (QF.pick O O O (AE (AC (An.refl _) O)))
     refine AQ.cons O ?_ ?_
     ·
      intro mq hh o
      intro aa0 l0
      have hsN:=o.st c
      cases l0
      exact LF.q 1 (QF.mv O O (AE (AC (An.refl _) O)))
     refine AQ.cons O ?_ ?_
     ·
      intro mq hh o
      intro aa1 l1
      have hsN:=o.st c
      cases l1
      exact⟨82,O,.inr ⟨_,O,(by simp [yb,undef]),O⟩⟩
     refine AQ.cons O ?_ ?_
     ·
      intro mq hh o
      intro aa2 l2
      have hsN:=SN.st c o
      cases l2
      exact⟨82,O,.inr ⟨_,O,(by simp [yb,undef]),O⟩⟩
     refine AQ.cons O ?_ ?_
     ·
      intro mq hh o
      intro aa3 l3
      have hsN:=o.st c
      cases l3
      exact⟨82,O,.inr ⟨_,O,(by simp [yb,undef]),O⟩⟩
     refine AQ.cons O ?_ ?_
     ·
      intro mq hh o
      intro aa4 l4 aa5 l5
      have hsN:=o.st c
      cases l4
      cases l5
      exact LF.q 1 (QF.pick O O O (AE (AC (An.refl _) O)))
     refine AQ.cons O ?_ ?_
     ·
      intro mq hh o
      intro aa6 l6
      have hsN:=o.st c
      cases l6
      exact LF.q 1 (QF.mv O O (AE (AC (An.refl _) O)))
     refine AQ.cons O ?_ ?_
     ·
      intro mq hh o
      intro aa7 l7
      have hsN:=o.st c
      cases l7
      exact⟨87,O,.inr ⟨_,O,(by simp [yb,undef]),O⟩⟩
     refine AQ.cons O ?_ ?_
     ·
      intro mq hh o
      intro aa8 l8
      have hsN:=o.st c
      cases l8
      exact⟨87,O,.inr ⟨_,O,(by simp [yb,undef]),O⟩⟩
     refine AQ.cons O ?_ ?_
     ·
      intro mq hh o
      intro aa9 l9
      have hsN:=o.st c
      cases l9
      exact⟨87,O,.inr ⟨_,O,(by simp [yb,undef]),O⟩⟩
     refine AQ.cons O ?_ ?_
     ·
      intro mq hh o
      intro baa ma
      have hsN:=SN.st c o
      cases ma
      exact⟨87,O,.inr ⟨_,O,(by simp [yb,undef]),O⟩⟩
     refine AQ.cons O ?_ ?_
     ·
      intro mq hh o
      intro bab mb bac mc
      have hsN:=o.st c
      cases mb
      cases mc
      exact LF.q 1 (QF.pick O O O (AE (AC (An.refl _) O)))
     refine AQ.cons O ?_ ?_
     ·
      intro mq hh o
      intro bad md
      have hsN:=o.st c
      cases md
      exact LF.q 1 (QF.mv O O (AE (AC (An.refl _) O)))
     refine AQ.cons O ?_ ?_
     ·
      intro mq hh o
      intro bae me
      have hsN:=o.st c
      cases me
      exact⟨93,O,.inr ⟨_,O,(by simp [yb,undef]),O⟩⟩
     refine AQ.cons O ?_ ?_
     ·
      intro mq hh o
      intro baf mf
      have hsN:=o.st c
      cases mf
      exact⟨93,O,.inr ⟨_,O,(by simp [yb,undef]),O⟩⟩
     refine AQ.cons O ?_ ?_
     ·
      intro mq hh o
      intro bag mg
      have hsN:=SN.st c o
      cases mg
      exact⟨93,O,.inr ⟨_,O,(by simp [yb,undef]),O⟩⟩
     refine AQ.cons O ?_ ?_
     ·
      intro mq hh o
      intro bah mi
      have hsN:=SN.st c o
      cases mi
      exact⟨93,O,.inr ⟨_,O,(by simp [yb,undef]),O⟩⟩
     refine AQ.cons O ?_ ?_
     ·
      intro mq hh o
      intro bai mj
      have hsN:=o.st c
      cases mj
      exact⟨93,O,.inr ⟨_,O,(by simp [yb,undef]),O⟩⟩
     refine AQ.cons O ?_ ?_
     ·
      intro mq hh o
      intro baj ml bak mm
      have hsN:=o.st c
      cases ml
      cases mm
      exact LF.q 1 (QF.pick O O O (AE (AC (An.refl _) O)))
     refine AQ.cons O ?_ ?_
     ·
      intro mq hh o
      intro bal mn
      have hsN:=o.st c
      cases mn
      exact LF.q 1 (QF.mv O O (AE (AC (An.refl _) O)))
     refine AQ.cons O ?_ ?_
     ·
      intro mq hh o
      intro bam mp
      have hsN:=o.st c
      cases mp
      exact⟨100,O,.inr ⟨_,O,(by simp [yb,undef]),O⟩⟩
     refine AQ.cons O ?_ ?_
     ·
      intro mq hh o
      intro ban mr
      have hsN:=o.st c
      cases mr
      exact⟨100,O,.inr ⟨_,O,(by simp [yb,undef]),O⟩⟩
     refine AQ.cons O ?_ ?_
     ·
      intro mq hh o
      intro bao ms
      have hsN:=o.st c
      cases ms
      exact⟨100,O,.inr ⟨_,O,(by simp [yb,undef]),O⟩⟩
     refine AQ.cons O ?_ ?_
     ·
      intro mq hh o
      intro bap mu
      have hsN:=SN.st c o
      cases mu
      exact⟨100,O,.inr ⟨_,O,(by simp [yb,undef]),O⟩⟩
     refine AQ.cons O ?_ ?_
     ·
      intro mq hh o
      intro baq mw
      have hsN:=o.st c
      cases mw
      exact⟨100,O,.inr ⟨_,O,(by simp [yb,undef]),O⟩⟩
     refine AQ.cons O ?_ ?_
     ·
      intro mq hh o
      intro bar mx
      have hsN:=SN.st c o
      cases mx
      exact⟨100,O,.inr ⟨_,O,(by simp [yb,undef]),O⟩⟩
     refine AQ.cons O ?_ ?_
     ·
      intro mq hh o
      intro bas my bat mz
      have hsN:=o.st c
      cases my
      cases mz
      exact LF.q 1 (QF.pick O O O (AE (AC (An.refl _) O)))
     refine AQ.cons O ?_ ?_
     ·
      intro mq hh o
      intro bau m0
      have hsN:=o.st c
      cases m0
      exact LF.q 1 (QF.as_ O O (AE (AC (An.refl _) O)))
     exact trivial
    intro bav de baw m1
    have ed:=SN.st c de
    cases m1
    exact LF.nil (kp [0] O) (WF.nil (λaa ww hf hw=>⟨_,_,hf.sub (kp [0] O),hw,ed,(SN.ext c.1 de),trivial⟩))
   ·
    have ap:=A7 H ap
    obtain⟨aj,a7,ap⟩:=bd ap
    have m2:=Option.some.inj ap
    subst m2
    rcases ZE aj with J|J
    ·
     have an:=A8 J an
     have m3:=Option.some.inj an
     subst m3
     have m4:=Option.some.inj am
     subst m4
     have m5:=Option.some.inj ab
     subst m5
     have m6:=Option.some.inj X
     subst m6
     refine IX (m:=[(8,.bool ((I&&(decide (t.1.Hour=1)))&&(decide ((↑t.1.Queue.length:Int)=0)))),(7,.pointer (some ⟨a5,0,none⟩)),(3,.pointer (some ⟨ba,0,none⟩)),(2,.pointer (some ⟨a9,0,none⟩))]) 33 (λi v hh=>match i with|0=>v= .bool ((I&&(decide (t.1.Hour=1)))&&(decide ((↑t.1.Queue.length:Int)=0)))|1=>v= .bool ((I&&(decide (t.1.Hour=1)))&&(decide ((↑t.1.Queue.length:Int)=0)))|2=>v= .agg #[.string (ByteArray.mk #[98]),(.slice (some ⟨U,0,none⟩) 1 1),.int .i64 0,(.slice (some ⟨V,0,none⟩) 1 1),.slice none 0 0,.slice none 0 0,.slice none 0 0,.slice none 0 0,.slice none 0 0,(.slice (some ⟨W,0,none⟩) 3 3),.int .i64 0]∧(ByteArray.mk #[98]).size≤maxLen∧AB 0∧AB 0|3=>v= .agg #[.int .i64 0,(.slice (some ⟨Z,0,none⟩) 1 1),.slice none 0 0,.slice none 0 0]∧AB 0|4=>v= .bool aj|5=>v= .bool aj|6=>v= .bool aj|7=>v=undef|8=>v=undef|9=>v=undef|10=>v= .bool false|11=>v= .bool false|12=>v=undef|13=>v=undef|14=>v=undef|15=>v=undef|16=>v= .bool false|17=>v= .bool false|18=>v=undef|19=>v=undef|20=>v=undef|21=>v=undef|22=>v=undef|23=>v= .bool false|24=>v= .bool false|25=>v=undef|26=>v=undef|27=>v=undef|28=>v=undef|29=>v=undef|30=>v=undef|31=>v= .bool false|32=>v= .bool false|_=>False) [[],[(0,76)],[(1,77)],[(1,77)],[(2,78),(3,79),(1,77)],[(1,77),(4,80)],[(5,81)],[(6,82)],[(6,82)],[(6,82)],[(6,82),(9,85)],[(10,86)],[(11,87)],[(11,87)],[(11,87)],[(11,87)],[(11,87),(15,91)],[(16,92)],[(17,93)],[(17,93)],[(17,93)],[(17,93)],[(17,93)],[(17,93),(22,98)],[(23,99)],[(24,100)],[(24,100)],[(24,100)],[(24,100)],[(24,100)],[(24,100)],[(24,100),(30,106)],[(31,107)]] [(32,0)] mo (by kernel_rfl) [8,7,3,2] O (by kernel_rfl) (by kernel_rfl) (by kernel_rfl) (kp [8,7,3,2] O) (λi v h1 h2 o1 o2 hr=>?_) ?_ ?_
     ·match i,hr with
       |0,hr=>exact hr
       |1,hr=>exact hr
       |2,hr=>exact hr
       |3,hr=>exact hr
       |4,hr=>exact hr
       |5,hr=>exact hr
       |6,hr=>exact hr
       |7,hr=>exact hr
       |8,hr=>exact hr
       |9,hr=>exact hr
       |10,hr=>exact hr
       |11,hr=>exact hr
       |12,hr=>exact hr
       |13,hr=>exact hr
       |14,hr=>exact hr
       |15,hr=>exact hr
       |16,hr=>exact hr
       |17,hr=>exact hr
       |18,hr=>exact hr
       |19,hr=>exact hr
       |20,hr=>exact hr
       |21,hr=>exact hr
       |22,hr=>exact hr
       |23,hr=>exact hr
       |24,hr=>exact hr
       |25,hr=>exact hr
       |26,hr=>exact hr
       |27,hr=>exact hr
       |28,hr=>exact hr
       |29,hr=>exact hr
       |30,hr=>exact hr
       |31,hr=>exact hr
       |32,hr=>exact hr
       |_+33,hr=>exact hr.elim
     ·
      refine AQ.cons O ?_ ?_
      ·
       intro mq hh o
       have hsN:=o.st c
       exact LF.q 1 (QF.mv O O (AE (AC (An.refl _) O)))
      refine AQ.cons O ?_ ?_
      ·
       intro mq hh o
       intro bax m7
       have hsN:=o.st c
       cases m7
       exact LF.q 1 (QF.mv O O (AE (AC (An.refl _) O)))
      refine AQ.cons O ?_ ?_
      ·
       intro mq hh o
       intro m8 m9
       have hsN:=o.st c
       obtain rfl:m8= .bool true:=Eq.trans m9 (congrArg Value.bool H)
       refine⟨77,O,.inl ⟨O,?_⟩⟩
       exact LF.q 1 (QF.ldo (vs:=[.string (ByteArray.mk #[98]),(.slice (some ⟨U,0,none⟩) 1 1),.int .i64 0,(.slice (some ⟨V,0,none⟩) 1 1),.slice none 0 0,.slice none 0 0,.slice none 0 0,.slice none 0 0,.slice none 0 0,(.slice (some ⟨W,0,none⟩) 3 3),.int .i64 0]) Af hsN O (mt (mt (mt (mt (mt mh))))) O O ET O O (AE (AC (An.refl _) ⟨O,(by decide),(iq (n:=0) O),(iq (n:=0) O)⟩)))
      refine AQ.cons O ?_ ?_
      ·
       intro mq hh o
       intro na nc
       have hsN:=o.st c
       obtain rfl:na= .bool true:=Eq.trans nc (congrArg Value.bool H)
       refine⟨77,O,.inl ⟨O,?_⟩⟩
       exact LF.q 1 (QF.ldo (vs:=[.int .i64 0,(.slice (some ⟨Z,0,none⟩) 1 1),.slice none 0 0,.slice none 0 0]) Af hsN O (mt (mt (mt (mt mh)))) O O FG O O (AE (AC (An.refl _) ⟨O,(iq (n:=0) O)⟩)))
      refine AQ.cons O ?_ ?_
      ·
       intro mq hh o
       intro bay nd baz ne nf ng
       have hsN:=SN.st c o
       obtain⟨rfl,nh,ni,nj⟩:=nd
       obtain⟨rfl,nk⟩:=ne
       obtain rfl:nf= .bool true:=Eq.trans ng (congrArg Value.bool H)
       refine⟨77,O,.inl ⟨O,?_⟩⟩
       have ee:=au.trans (Y.trans (C.trans (D.trans (F.trans (G.trans (u.trans (y.trans (z.trans (j.trans (g.trans (s.trans (k.trans (d.trans (SN.ext c.1 o))))))))))))))
       have nl:=av.mono' ee
       have ef:=Y.trans (C.trans (D.trans (F.trans (G.trans (u.trans (y.trans (z.trans (j.trans (g.trans (s.trans (k.trans (d.trans (SN.ext c.1 o)))))))))))))
       have nm:=aw.mono' ef
       have eg:=C.trans (D.trans (F.trans (G.trans (u.trans (y.trans (z.trans (j.trans (g.trans (s.trans (k.trans (d.trans (SN.ext c.1 o))))))))))))
       have nn:=ax.mono' eg
       have eh:=u.trans (y.trans (z.trans (j.trans (g.trans (s.trans (k.trans (d.trans (SN.ext c.1 o))))))))
       have no:=ay.mono' eh
       refine LF.callb O O O Nl O hsN (Er (St.all _) (BG.mk (x:=(⟨(ByteArray.mk #[98]),([(ByteArray.mk #[97])]:List ByteArray),0,Cc,[],[],[],[],[],([0,0,0]:List Int),0⟩:AK)) nh (nl.mono (λb hb=>hsN.1 b hb) (λ_ _=>rfl)) ni (nm.mono (λb hb=>hsN.1 b hb) (λ_ _=>rfl)) (.inl ⟨O,O⟩) (.inl ⟨O,O⟩) (.inl ⟨O,O⟩) (.inl ⟨O,O⟩) (.inl ⟨O,O⟩) (nn.mono (λb hb=>hsN.1 b hb) (λ_ _=>rfl)) nj) (CE.mk (x:=(⟨0,([(⟨100,150⟩:AF)]:List AF),[],[]⟩:Al)) nk (no.mono (λb hb=>hsN.1 b hb) (λ_ _=>rfl)) (.inl ⟨O,O⟩) (.inl ⟨O,O⟩)) a7) λba0 ba1 ba2 xs ba3 df p=>?_
       obtain⟨rfl,xt⟩:=p
       exact AC ⟨df.siz,λb hb=>df.same b hb⟩ O
      refine AQ.cons O ?_ ?_
      ·
       intro mq hh o
       intro np nq ba4 nr
       have hsN:=o.st c
       obtain rfl:np= .bool true:=Eq.trans nq (congrArg Value.bool H)
       cases nr
       exact LF.q 1 (QF.pick O O O (AE (AC (An.refl _) O)))
      refine AQ.cons O ?_ ?_
      ·
       intro mq hh o
       intro ba5 ns
       have hsN:=o.st c
       cases ns
       exact LF.q 1 (QF.mv O O (AE (AC (An.refl _) O)))
      refine AQ.cons O ?_ ?_
      ·
       intro mq hh o
       intro nt nu
       have hsN:=o.st c
       obtain rfl:nt= .bool false:=Eq.trans nu (congrArg Value.bool J)
       exact⟨82,O,.inr ⟨_,O,(by simp [yb,undef]),O⟩⟩
      refine AQ.cons O ?_ ?_
      ·
       intro mq hh o
       intro nv nw
       have hsN:=SN.st c o
       obtain rfl:nv= .bool false:=Eq.trans nw (congrArg Value.bool J)
       exact⟨82,O,.inr ⟨_,O,(by simp [yb,undef]),O⟩⟩
      refine AQ.cons O ?_ ?_
      ·
       intro mq hh o
       intro nx ny
       have hsN:=o.st c
       obtain rfl:nx= .bool false:=Eq.trans ny (congrArg Value.bool J)
       exact⟨82,O,.inr ⟨_,O,(by simp [yb,undef]),O⟩⟩
      refine AQ.cons O ?_ ?_
      ·
       intro mq hh o
       intro nz n0 ba6 n1
       have hsN:=o.st c
       obtain rfl:nz= .bool false:=Eq.trans n0 (congrArg Value.bool J)
       cases n1
       exact LF.q 1 (QF.pick O O O (AE (AC (An.refl _) O)))
      refine AQ.cons O ?_ ?_
      ·
       intro mq hh o
       intro ba7 n2
       have hsN:=o.st c
       cases n2
       exact LF.q 1 (QF.mv O O (AE (AC (An.refl _) O)))
      refine AQ.cons O ?_ ?_
      ·
       intro mq hh o
       intro ba8 n3
       have hsN:=o.st c
       cases n3
       exact⟨87,O,.inr ⟨_,O,(by simp [yb,undef]),O⟩⟩
      refine AQ.cons O ?_ ?_
      ·
       intro mq hh o
       intro ba9 n4
       have hsN:=o.st c
       cases n4
       exact⟨87,O,.inr ⟨_,O,(by simp [yb,undef]),O⟩⟩
      refine AQ.cons O ?_ ?_
      ·
       intro mq hh o
       intro caa n5
       have hsN:=o.st c
       cases n5
       exact⟨87,O,.inr ⟨_,O,(by simp [yb,undef]),O⟩⟩
      refine AQ.cons O ?_ ?_
      ·
       intro mq hh o
       intro cab n6
       have hsN:=SN.st c o
       cases n6
       exact⟨87,O,.inr ⟨_,O,(by simp [yb,undef]),O⟩⟩
      refine AQ.cons O ?_ ?_
      ·
       intro mq hh o
       intro cac n7 cad n8
       have hsN:=o.st c
       cases n7
       cases n8
       exact LF.q 1 (QF.pick O O O (AE (AC (An.refl _) O)))
      refine AQ.cons O ?_ ?_
      ·
       intro mq hh o
       intro cae n9
       have hsN:=o.st c
       cases n9
       exact LF.q 1 (QF.mv O O (AE (AC (An.refl _) O)))
      refine AQ.cons O ?_ ?_
      ·
       intro mq hh o
       intro caf oa
       have hsN:=o.st c
       cases oa
       exact⟨93,O,.inr ⟨_,O,(by simp [yb,undef]),O⟩⟩
      refine AQ.cons O ?_ ?_
      ·
       intro mq hh o
       intro cag ob
       have hsN:=o.st c
       cases ob
       exact⟨93,O,.inr ⟨_,O,(by simp [yb,undef]),O⟩⟩
      refine AQ.cons O ?_ ?_
      ·
       intro mq hh o
       intro cah oc
       have hsN:=SN.st c o
       cases oc
       exact⟨93,O,.inr ⟨_,O,(by simp [yb,undef]),O⟩⟩
      refine AQ.cons O ?_ ?_
      ·
       intro mq hh o
       intro cai od
       have hsN:=SN.st c o
       cases od
       exact⟨93,O,.inr ⟨_,O,(by simp [yb,undef]),O⟩⟩
      refine AQ.cons O ?_ ?_
      ·
       intro mq hh o
       intro caj oe
       have hsN:=o.st c
       cases oe
       exact⟨93,O,.inr ⟨_,O,(by simp [yb,undef]),O⟩⟩
      refine AQ.cons O ?_ ?_
      ·
       intro mq hh o
       intro cak og cal oh
       have hsN:=o.st c
       cases og
       cases oh
       exact LF.q 1 (QF.pick O O O (AE (AC (An.refl _) O)))
      refine AQ.cons O ?_ ?_
      ·
       intro mq hh o
       intro cam oi
       have hsN:=o.st c
       cases oi
       exact LF.q 1 (QF.mv O O (AE (AC (An.refl _) O)))
      refine AQ.cons O ?_ ?_
      ·
       intro mq hh o
       intro can oj
       have hsN:=o.st c
       cases oj
       exact⟨100,O,.inr ⟨_,O,(by simp [yb,undef]),O⟩⟩
      refine AQ.cons O ?_ ?_
      ·
       intro mq hh o
       intro cao ok
       have hsN:=o.st c
       cases ok
       exact⟨100,O,.inr ⟨_,O,(by simp [yb,undef]),O⟩⟩
      refine AQ.cons O ?_ ?_
      ·
       intro mq hh o
       intro cap ol
       have hsN:=o.st c
       cases ol
       exact⟨100,O,.inr ⟨_,O,(by simp [yb,undef]),O⟩⟩
      refine AQ.cons O ?_ ?_
      ·
       intro mq hh o
       intro caq om
       have hsN:=SN.st c o
       cases om
       exact⟨100,O,.inr ⟨_,O,(by simp [yb,undef]),O⟩⟩
      refine AQ.cons O ?_ ?_
      ·
       intro mq hh o
       intro car oo
       have hsN:=o.st c
       cases oo
       exact⟨100,O,.inr ⟨_,O,(by simp [yb,undef]),O⟩⟩
      refine AQ.cons O ?_ ?_
      ·
       intro mq hh o
       intro cas op
       have hsN:=SN.st c o
       cases op
       exact⟨100,O,.inr ⟨_,O,(by simp [yb,undef]),O⟩⟩
      refine AQ.cons O ?_ ?_
      ·
       intro mq hh o
       intro cat oq cau os
       have hsN:=o.st c
       cases oq
       cases os
       exact LF.q 1 (QF.pick O O O (AE (AC (An.refl _) O)))
      refine AQ.cons O ?_ ?_
      ·
       intro mq hh o
       intro cav ot
       have hsN:=o.st c
       cases ot
       exact LF.q 1 (QF.as_ O O (AE (AC (An.refl _) O)))
      exact trivial
     intro caw dg cax ou
     have ei:=SN.st c dg
     cases ou
     exact LF.nil (kp [0] O) (WF.nil (λaa ww hf hw=>⟨_,_,hf.sub (kp [0] O),hw,ei,(SN.ext c.1 dg),trivial⟩))
    ·
     have an:=A7 J an
     obtain⟨M,a8,an⟩:=bd an
     have ov:=Option.some.inj an
     subst ov
     rcases ZE (decide (M=50)) with K|K
     ·
      have am:=A8 K am
      have ow:=Option.some.inj am
      subst ow
      have ox:=Option.some.inj ab
      subst ox
      have oy:=Option.some.inj X
      subst oy
      refine IX (m:=[(8,.bool ((I&&(decide (t.1.Hour=1)))&&(decide ((↑t.1.Queue.length:Int)=0)))),(7,.pointer (some ⟨a5,0,none⟩)),(3,.pointer (some ⟨ba,0,none⟩)),(2,.pointer (some ⟨a9,0,none⟩))]) 33 (λi v hh=>match i with|0=>v= .bool ((I&&(decide (t.1.Hour=1)))&&(decide ((↑t.1.Queue.length:Int)=0)))|1=>v= .bool ((I&&(decide (t.1.Hour=1)))&&(decide ((↑t.1.Queue.length:Int)=0)))|2=>v= .agg #[.string (ByteArray.mk #[98]),(.slice (some ⟨U,0,none⟩) 1 1),.int .i64 0,(.slice (some ⟨V,0,none⟩) 1 1),.slice none 0 0,.slice none 0 0,.slice none 0 0,.slice none 0 0,.slice none 0 0,(.slice (some ⟨W,0,none⟩) 3 3),.int .i64 0]∧(ByteArray.mk #[98]).size≤maxLen∧AB 0∧AB 0|3=>v= .agg #[.int .i64 0,(.slice (some ⟨Z,0,none⟩) 1 1),.slice none 0 0,.slice none 0 0]∧AB 0|4=>v= .bool aj|5=>v= .bool aj|6=>v= .bool aj|7=>v= .agg #[.int .i64 0,(.slice (some ⟨Z,0,none⟩) 1 1),.slice none 0 0,.slice none 0 0]∧AB 0|8=>v= .int .i64 M∧AB M|9=>v= .bool (decide (M=50))|10=>v= .bool (decide (M=50))|11=>v= .bool (decide (M=50))|12=>v=undef|13=>v=undef|14=>v=undef|15=>v=undef|16=>v= .bool false|17=>v= .bool false|18=>v=undef|19=>v=undef|20=>v=undef|21=>v=undef|22=>v=undef|23=>v= .bool false|24=>v= .bool false|25=>v=undef|26=>v=undef|27=>v=undef|28=>v=undef|29=>v=undef|30=>v=undef|31=>v= .bool false|32=>v= .bool false|_=>False) [[],[(0,76)],[(1,77)],[(1,77)],[(2,78),(3,79),(1,77)],[(1,77),(4,80)],[(5,81)],[(6,82)],[(7,83),(6,82)],[(8,84),(6,82)],[(6,82),(9,85)],[(10,86)],[(11,87)],[(11,87)],[(11,87)],[(11,87)],[(11,87),(15,91)],[(16,92)],[(17,93)],[(17,93)],[(17,93)],[(17,93)],[(17,93)],[(17,93),(22,98)],[(23,99)],[(24,100)],[(24,100)],[(24,100)],[(24,100)],[(24,100)],[(24,100)],[(24,100),(30,106)],[(31,107)]] [(32,0)] mo (by kernel_rfl) [8,7,3,2] O (by kernel_rfl) (by kernel_rfl) (by kernel_rfl) (kp [8,7,3,2] O) (λi v h1 h2 o1 o2 hr=>?_) ?_ ?_
      ·match i,hr with
        |0,hr=>exact hr
        |1,hr=>exact hr
        |2,hr=>exact hr
        |3,hr=>exact hr
        |4,hr=>exact hr
        |5,hr=>exact hr
        |6,hr=>exact hr
        |7,hr=>exact hr
        |8,hr=>exact hr
        |9,hr=>exact hr
        |10,hr=>exact hr
        |11,hr=>exact hr
        |12,hr=>exact hr
        |13,hr=>exact hr
        |14,hr=>exact hr
        |15,hr=>exact hr
        |16,hr=>exact hr
        |17,hr=>exact hr
        |18,hr=>exact hr
        |19,hr=>exact hr
        |20,hr=>exact hr
        |21,hr=>exact hr
        |22,hr=>exact hr
        |23,hr=>exact hr
        |24,hr=>exact hr
        |25,hr=>exact hr
        |26,hr=>exact hr
        |27,hr=>exact hr
        |28,hr=>exact hr
        |29,hr=>exact hr
        |30,hr=>exact hr
        |31,hr=>exact hr
        |32,hr=>exact hr
        |_+33,hr=>exact hr.elim
      ·
       refine AQ.cons O ?_ ?_
       ·
        intro mq hh o
        have hsN:=o.st c
        exact LF.q 1 (QF.mv O O (AE (AC (An.refl _) O)))
       refine AQ.cons O ?_ ?_
       ·
        intro mq hh o
        intro cay oz
        have hsN:=o.st c
        cases oz
        exact LF.q 1 (QF.mv O O (AE (AC (An.refl _) O)))
       refine AQ.cons O ?_ ?_
       ·
        intro mq hh o
        intro o0 o3
        have hsN:=o.st c
        obtain rfl:o0= .bool true:=Eq.trans o3 (congrArg Value.bool H)
        refine⟨77,O,.inl ⟨O,?_⟩⟩
        exact LF.q 1 (QF.ldo (vs:=[.string (ByteArray.mk #[98]),(.slice (some ⟨U,0,none⟩) 1 1),.int .i64 0,(.slice (some ⟨V,0,none⟩) 1 1),.slice none 0 0,.slice none 0 0,.slice none 0 0,.slice none 0 0,.slice none 0 0,(.slice (some ⟨W,0,none⟩) 3 3),.int .i64 0]) Af hsN O (mt (mt (mt (mt (mt mh))))) O O ET O O (AE (AC (An.refl _) ⟨O,(by decide),(iq (n:=0) O),(iq (n:=0) O)⟩)))
       refine AQ.cons O ?_ ?_
       ·
        intro mq hh o
        intro o4 o5
        have hsN:=o.st c
        obtain rfl:o4= .bool true:=Eq.trans o5 (congrArg Value.bool H)
        refine⟨77,O,.inl ⟨O,?_⟩⟩
        exact LF.q 1 (QF.ldo (vs:=[.int .i64 0,(.slice (some ⟨Z,0,none⟩) 1 1),.slice none 0 0,.slice none 0 0]) Af hsN O (mt (mt (mt (mt mh)))) O O FG O O (AE (AC (An.refl _) ⟨O,(iq (n:=0) O)⟩)))
       refine AQ.cons O ?_ ?_
       ·
        intro mq hh o
        intro caz o6 ca0 o7 o8 o9
        have hsN:=SN.st c o
        obtain⟨rfl,pa,pb,pc⟩:=o6
        obtain⟨rfl,pd⟩:=o7
        obtain rfl:o8= .bool true:=Eq.trans o9 (congrArg Value.bool H)
        refine⟨77,O,.inl ⟨O,?_⟩⟩
        have ej:=au.trans (Y.trans (C.trans (D.trans (F.trans (G.trans (u.trans (y.trans (z.trans (j.trans (g.trans (s.trans (k.trans (d.trans (SN.ext c.1 o))))))))))))))
        have pe:=av.mono' ej
        have ek:=Y.trans (C.trans (D.trans (F.trans (G.trans (u.trans (y.trans (z.trans (j.trans (g.trans (s.trans (k.trans (d.trans (SN.ext c.1 o)))))))))))))
        have pf:=aw.mono' ek
        have el:=C.trans (D.trans (F.trans (G.trans (u.trans (y.trans (z.trans (j.trans (g.trans (s.trans (k.trans (d.trans (SN.ext c.1 o))))))))))))
        have pg:=ax.mono' el
        have em:=u.trans (y.trans (z.trans (j.trans (g.trans (s.trans (k.trans (d.trans (SN.ext c.1 o))))))))
        have ph:=ay.mono' em
        refine LF.callb O O O Nl O hsN (Er (St.all _) (BG.mk (x:=(⟨(ByteArray.mk #[98]),([(ByteArray.mk #[97])]:List ByteArray),0,Cc,[],[],[],[],[],([0,0,0]:List Int),0⟩:AK)) pa (pe.mono (λb hb=>hsN.1 b hb) (λ_ _=>rfl)) pb (pf.mono (λb hb=>hsN.1 b hb) (λ_ _=>rfl)) (.inl ⟨O,O⟩) (.inl ⟨O,O⟩) (.inl ⟨O,O⟩) (.inl ⟨O,O⟩) (.inl ⟨O,O⟩) (pg.mono (λb hb=>hsN.1 b hb) (λ_ _=>rfl)) pc) (CE.mk (x:=(⟨0,([(⟨100,150⟩:AF)]:List AF),[],[]⟩:Al)) pd (ph.mono (λb hb=>hsN.1 b hb) (λ_ _=>rfl)) (.inl ⟨O,O⟩) (.inl ⟨O,O⟩)) a7) λca1 ca2 ca3 xu ca4 dh p=>?_
        obtain⟨rfl,xv⟩:=p
        exact AC ⟨dh.siz,λb hb=>dh.same b hb⟩ O
       refine AQ.cons O ?_ ?_
       ·
        intro mq hh o
        intro pi pj ca5 pk
        have hsN:=o.st c
        obtain rfl:pi= .bool true:=Eq.trans pj (congrArg Value.bool H)
        cases pk
        exact LF.q 1 (QF.pick O O O (AE (AC (An.refl _) O)))
       refine AQ.cons O ?_ ?_
       ·
        intro mq hh o
        intro ca6 pl
        have hsN:=o.st c
        cases pl
        exact LF.q 1 (QF.mv O O (AE (AC (An.refl _) O)))
       refine AQ.cons O ?_ ?_
       ·
        intro mq hh o
        intro pm pn
        have hsN:=o.st c
        obtain rfl:pm= .bool true:=Eq.trans pn (congrArg Value.bool J)
        refine⟨82,O,.inl ⟨O,?_⟩⟩
        exact LF.q 1 (QF.ldo (vs:=[.int .i64 0,(.slice (some ⟨Z,0,none⟩) 1 1),.slice none 0 0,.slice none 0 0]) Af hsN O (mt (mt (mt (mt mh)))) O O FG O O (AE (AC (An.refl _) ⟨O,(iq (n:=0) O)⟩)))
       refine AQ.cons O ?_ ?_
       ·
        intro mq hh o
        intro ca7 po pp pq
        have hsN:=SN.st c o
        obtain⟨rfl,pr⟩:=po
        obtain rfl:pp= .bool true:=Eq.trans pq (congrArg Value.bool J)
        refine⟨82,O,.inl ⟨O,?_⟩⟩
        have en:=u.trans (y.trans (z.trans (j.trans (g.trans (s.trans (k.trans (d.trans (SN.ext c.1 o))))))))
        have ps:=ay.mono' en
        refine LF.callb O O O OL O hsN (GC (St.all _) (CE.mk (x:=(⟨0,([(⟨100,150⟩:AF)]:List AF),[],[]⟩:Al)) pr (ps.mono (λb hb=>hsN.1 b hb) (λ_ _=>rfl)) (.inl ⟨O,O⟩) (.inl ⟨O,O⟩)) a8) λca8 ca9 daa xw dab di p=>?_
        obtain⟨rfl,pu,xx⟩:=p
        exact AC ⟨di.siz,λb hb=>di.same b hb⟩ ⟨O,pu⟩
       refine AQ.cons O ?_ ?_
       ·
        intro mq hh o
        intro dac pv pw px
        have hsN:=o.st c
        obtain⟨rfl,dad⟩:=pv
        obtain rfl:pw= .bool true:=Eq.trans px (congrArg Value.bool J)
        refine⟨82,O,.inl ⟨O,?_⟩⟩
        exact LF.q 1 (QF.eql O O O (AE (AC (An.refl _) O)))
       refine AQ.cons O ?_ ?_
       ·
        intro mq hh o
        intro py pz dae p0
        have hsN:=o.st c
        obtain rfl:py= .bool true:=Eq.trans pz (congrArg Value.bool J)
        cases p0
        exact LF.q 1 (QF.pick O O O (AE (AC (An.refl _) O)))
       refine AQ.cons O ?_ ?_
       ·
        intro mq hh o
        intro daf p1
        have hsN:=o.st c
        cases p1
        exact LF.q 1 (QF.mv O O (AE (AC (An.refl _) O)))
       refine AQ.cons O ?_ ?_
       ·
        intro mq hh o
        intro p2 p3
        have hsN:=o.st c
        obtain rfl:p2= .bool false:=Eq.trans p3 (congrArg Value.bool K)
        exact⟨87,O,.inr ⟨_,O,(by simp [yb,undef]),O⟩⟩
       refine AQ.cons O ?_ ?_
       ·
        intro mq hh o
        intro p4 p5
        have hsN:=o.st c
        obtain rfl:p4= .bool false:=Eq.trans p5 (congrArg Value.bool K)
        exact⟨87,O,.inr ⟨_,O,(by simp [yb,undef]),O⟩⟩
       refine AQ.cons O ?_ ?_
       ·
        intro mq hh o
        intro p6 p7
        have hsN:=o.st c
        obtain rfl:p6= .bool false:=Eq.trans p7 (congrArg Value.bool K)
        exact⟨87,O,.inr ⟨_,O,(by simp [yb,undef]),O⟩⟩
       refine AQ.cons O ?_ ?_
       ·
        intro mq hh o
        intro p8 p9
        have hsN:=SN.st c o
        obtain rfl:p8= .bool false:=Eq.trans p9 (congrArg Value.bool K)
        exact⟨87,O,.inr ⟨_,O,(by simp [yb,undef]),O⟩⟩
       refine AQ.cons O ?_ ?_
       ·
        intro mq hh o
        intro qa qb dag qc
        have hsN:=o.st c
        obtain rfl:qa= .bool false:=Eq.trans qb (congrArg Value.bool K)
        cases qc
        exact LF.q 1 (QF.pick O O O (AE (AC (An.refl _) O)))
       refine AQ.cons O ?_ ?_
       ·
        intro mq hh o
        intro dah qd
        have hsN:=o.st c
        cases qd
        exact LF.q 1 (QF.mv O O (AE (AC (An.refl _) O)))
       refine AQ.cons O ?_ ?_
       ·
        intro mq hh o
        intro dai qe
        have hsN:=o.st c
        cases qe
        exact⟨93,O,.inr ⟨_,O,(by simp [yb,undef]),O⟩⟩
       refine AQ.cons O ?_ ?_
       ·
        intro mq hh o
        intro daj qf
        have hsN:=o.st c
        cases qf
        exact⟨93,O,.inr ⟨_,O,(by simp [yb,undef]),O⟩⟩
       refine AQ.cons O ?_ ?_
       ·
        intro mq hh o
        intro dak qg
        have hsN:=SN.st c o
        cases qg
        exact⟨93,O,.inr ⟨_,O,(by simp [yb,undef]),O⟩⟩
       refine AQ.cons O ?_ ?_
       ·
        intro mq hh o
        intro dal qh
        have hsN:=SN.st c o
        cases qh
        exact⟨93,O,.inr ⟨_,O,(by simp [yb,undef]),O⟩⟩
       refine AQ.cons O ?_ ?_
       ·
        intro mq hh o
        intro dam qi
        have hsN:=o.st c
        cases qi
        exact⟨93,O,.inr ⟨_,O,(by simp [yb,undef]),O⟩⟩
       refine AQ.cons O ?_ ?_
       ·
        intro mq hh o
        intro dan qj dao qk
        have hsN:=o.st c
        cases qj
        cases qk
        exact LF.q 1 (QF.pick O O O (AE (AC (An.refl _) O)))
       refine AQ.cons O ?_ ?_
       ·
        intro mq hh o
        intro dap ql
        have hsN:=o.st c
        cases ql
        exact LF.q 1 (QF.mv O O (AE (AC (An.refl _) O)))
       refine AQ.cons O ?_ ?_
       ·
        intro mq hh o
        intro daq qm
        have hsN:=o.st c
        cases qm
        exact⟨100,O,.inr ⟨_,O,(by simp [yb,undef]),O⟩⟩
       refine AQ.cons O ?_ ?_
       ·
        intro mq hh o
        intro dar qn
        have hsN:=o.st c
        cases qn
        exact⟨100,O,.inr ⟨_,O,(by simp [yb,undef]),O⟩⟩
       refine AQ.cons O ?_ ?_
       ·
        intro mq hh o
        intro das qo
        have hsN:=o.st c
        cases qo
        exact⟨100,O,.inr ⟨_,O,(by simp [yb,undef]),O⟩⟩
       refine AQ.cons O ?_ ?_
       ·
        intro mq hh o
        intro dat qp
        have hsN:=SN.st c o
        cases qp
        exact⟨100,O,.inr ⟨_,O,(by simp [yb,undef]),O⟩⟩
       refine AQ.cons O ?_ ?_
       ·
        intro mq hh o
        intro dau qq
        have hsN:=o.st c
        cases qq
        exact⟨100,O,.inr ⟨_,O,(by simp [yb,undef]),O⟩⟩
       refine AQ.cons O ?_ ?_
       ·
        intro mq hh o
        intro dav qr
        have hsN:=SN.st c o
        cases qr
        exact⟨100,O,.inr ⟨_,O,(by simp [yb,undef]),O⟩⟩
       refine AQ.cons O ?_ ?_
       ·
        intro mq hh o
        intro daw qs dax qt
        have hsN:=o.st c
        cases qs
        cases qt
        exact LF.q 1 (QF.pick O O O (AE (AC (An.refl _) O)))
       refine AQ.cons O ?_ ?_
       ·
        intro mq hh o
        intro day qu
        have hsN:=o.st c
        cases qu
        exact LF.q 1 (QF.as_ O O (AE (AC (An.refl _) O)))
       exact trivial
      intro daz dj da0 qv
      have eo:=SN.st c dj
      cases qv
      exact LF.nil (kp [0] O) (WF.nil (λaa ww hf hw=>⟨_,_,hf.sub (kp [0] O),hw,eo,(SN.ext c.1 dj),trivial⟩))
     ·
      have am:=A7 K am
      obtain⟨ar,bb,am⟩:=bd am
      have qw:=Option.some.inj am
      subst qw
      rcases ZE ar with Q|Q
      ·
       have ab:=A8 Q ab
       have qx:=Option.some.inj ab
       subst qx
       have qy:=Option.some.inj X
       subst qy
       refine IX (m:=[(8,.bool ((I&&(decide (t.1.Hour=1)))&&(decide ((↑t.1.Queue.length:Int)=0)))),(7,.pointer (some ⟨a5,0,none⟩)),(3,.pointer (some ⟨ba,0,none⟩)),(2,.pointer (some ⟨a9,0,none⟩))]) 33 (λi v hh=>match i with|0=>v= .bool ((I&&(decide (t.1.Hour=1)))&&(decide ((↑t.1.Queue.length:Int)=0)))|1=>v= .bool ((I&&(decide (t.1.Hour=1)))&&(decide ((↑t.1.Queue.length:Int)=0)))|2=>v= .agg #[.string (ByteArray.mk #[98]),(.slice (some ⟨U,0,none⟩) 1 1),.int .i64 0,(.slice (some ⟨V,0,none⟩) 1 1),.slice none 0 0,.slice none 0 0,.slice none 0 0,.slice none 0 0,.slice none 0 0,(.slice (some ⟨W,0,none⟩) 3 3),.int .i64 0]∧(ByteArray.mk #[98]).size≤maxLen∧AB 0∧AB 0|3=>v= .agg #[.int .i64 0,(.slice (some ⟨Z,0,none⟩) 1 1),.slice none 0 0,.slice none 0 0]∧AB 0|4=>v= .bool aj|5=>v= .bool aj|6=>v= .bool aj|7=>v= .agg #[.int .i64 0,(.slice (some ⟨Z,0,none⟩) 1 1),.slice none 0 0,.slice none 0 0]∧AB 0|8=>v= .int .i64 M∧AB M|9=>v= .bool (decide (M=50))|10=>v= .bool (decide (M=50))|11=>v= .bool (decide (M=50))|12=>v= .agg #[.string (ByteArray.mk #[98]),(.slice (some ⟨U,0,none⟩) 1 1),.int .i64 0,(.slice (some ⟨V,0,none⟩) 1 1),.slice none 0 0,.slice none 0 0,.slice none 0 0,.slice none 0 0,.slice none 0 0,(.slice (some ⟨W,0,none⟩) 3 3),.int .i64 0]∧(ByteArray.mk #[98]).size≤maxLen∧AB 0∧AB 0|13=>v= .agg #[.int .i64 0,(.slice (some ⟨Z,0,none⟩) 1 1),.slice none 0 0,.slice none 0 0]∧AB 0|14=>v= .agg #[.int .i64 A.Hour,ac,ad,ae,af,ag,ah]∧AB A.Hour|15=>v= .bool ar|16=>v= .bool ar|17=>v= .bool ar|18=>v=undef|19=>v=undef|20=>v=undef|21=>v=undef|22=>v=undef|23=>v= .bool false|24=>v= .bool false|25=>v=undef|26=>v=undef|27=>v=undef|28=>v=undef|29=>v=undef|30=>v=undef|31=>v= .bool false|32=>v= .bool false|_=>False) [[],[(0,76)],[(1,77)],[(1,77)],[(2,78),(3,79),(1,77)],[(1,77),(4,80)],[(5,81)],[(6,82)],[(7,83),(6,82)],[(8,84),(6,82)],[(6,82),(9,85)],[(10,86)],[(11,87)],[(11,87)],[(11,87)],[(12,88),(13,89),(14,90),(11,87)],[(11,87),(15,91)],[(16,92)],[(17,93)],[(17,93)],[(17,93)],[(17,93)],[(17,93)],[(17,93),(22,98)],[(23,99)],[(24,100)],[(24,100)],[(24,100)],[(24,100)],[(24,100)],[(24,100)],[(24,100),(30,106)],[(31,107)]] [(32,0)] mo (by kernel_rfl) [8,7,3,2] O (by kernel_rfl) (by kernel_rfl) (by kernel_rfl) (kp [8,7,3,2] O) (λi v h1 h2 o1 o2 hr=>?_) ?_ ?_
       ·match i,hr with
         |0,hr=>exact hr
         |1,hr=>exact hr
         |2,hr=>exact hr
         |3,hr=>exact hr
         |4,hr=>exact hr
         |5,hr=>exact hr
         |6,hr=>exact hr
         |7,hr=>exact hr
         |8,hr=>exact hr
         |9,hr=>exact hr
         |10,hr=>exact hr
         |11,hr=>exact hr
         |12,hr=>exact hr
         |13,hr=>exact hr
         |14,hr=>exact hr
         |15,hr=>exact hr
         |16,hr=>exact hr
         |17,hr=>exact hr
         |18,hr=>exact hr
         |19,hr=>exact hr
         |20,hr=>exact hr
         |21,hr=>exact hr
         |22,hr=>exact hr
         |23,hr=>exact hr
         |24,hr=>exact hr
         |25,hr=>exact hr
         |26,hr=>exact hr
         |27,hr=>exact hr
         |28,hr=>exact hr
         |29,hr=>exact hr
         |30,hr=>exact hr
         |31,hr=>exact hr
         |32,hr=>exact hr
         |_+33,hr=>exact hr.elim
       ·
        refine AQ.cons O ?_ ?_
        ·
         intro mq hh o
         have hsN:=o.st c
         exact LF.q 1 (QF.mv O O (AE (AC (An.refl _) O)))
        refine AQ.cons O ?_ ?_
        ·
         intro mq hh o
         intro da1 q0
         have hsN:=o.st c
         cases q0
         exact LF.q 1 (QF.mv O O (AE (AC (An.refl _) O)))
        refine AQ.cons O ?_ ?_
        ·
         intro mq hh o
         intro q1 q2
         have hsN:=o.st c
         obtain rfl:q1= .bool true:=Eq.trans q2 (congrArg Value.bool H)
         refine⟨77,O,.inl ⟨O,?_⟩⟩
         exact LF.q 1 (QF.ldo (vs:=[.string (ByteArray.mk #[98]),(.slice (some ⟨U,0,none⟩) 1 1),.int .i64 0,(.slice (some ⟨V,0,none⟩) 1 1),.slice none 0 0,.slice none 0 0,.slice none 0 0,.slice none 0 0,.slice none 0 0,(.slice (some ⟨W,0,none⟩) 3 3),.int .i64 0]) Af hsN O (mt (mt (mt (mt (mt mh))))) O O ET O O (AE (AC (An.refl _) ⟨O,(by decide),(iq (n:=0) O),(iq (n:=0) O)⟩)))
        refine AQ.cons O ?_ ?_
        ·
         intro mq hh o
         intro q3 q4
         have hsN:=o.st c
         obtain rfl:q3= .bool true:=Eq.trans q4 (congrArg Value.bool H)
         refine⟨77,O,.inl ⟨O,?_⟩⟩
         exact LF.q 1 (QF.ldo (vs:=[.int .i64 0,(.slice (some ⟨Z,0,none⟩) 1 1),.slice none 0 0,.slice none 0 0]) Af hsN O (mt (mt (mt (mt mh)))) O O FG O O (AE (AC (An.refl _) ⟨O,(iq (n:=0) O)⟩)))
        refine AQ.cons O ?_ ?_
        ·
         intro mq hh o
         intro da2 q5 da3 q6 q7 q8
         have hsN:=SN.st c o
         obtain⟨rfl,q9,rb,rd⟩:=q5
         obtain⟨rfl,re⟩:=q6
         obtain rfl:q7= .bool true:=Eq.trans q8 (congrArg Value.bool H)
         refine⟨77,O,.inl ⟨O,?_⟩⟩
         have ep:=au.trans (Y.trans (C.trans (D.trans (F.trans (G.trans (u.trans (y.trans (z.trans (j.trans (g.trans (s.trans (k.trans (d.trans (SN.ext c.1 o))))))))))))))
         have rf:=av.mono' ep
         have eq:=Y.trans (C.trans (D.trans (F.trans (G.trans (u.trans (y.trans (z.trans (j.trans (g.trans (s.trans (k.trans (d.trans (SN.ext c.1 o)))))))))))))
         have rg:=aw.mono' eq
         have er:=C.trans (D.trans (F.trans (G.trans (u.trans (y.trans (z.trans (j.trans (g.trans (s.trans (k.trans (d.trans (SN.ext c.1 o))))))))))))
         have rh:=ax.mono' er
         have es:=u.trans (y.trans (z.trans (j.trans (g.trans (s.trans (k.trans (d.trans (SN.ext c.1 o))))))))
         have ri:=ay.mono' es
         refine LF.callb O O O Nl O hsN (Er (St.all _) (BG.mk (x:=(⟨(ByteArray.mk #[98]),([(ByteArray.mk #[97])]:List ByteArray),0,Cc,[],[],[],[],[],([0,0,0]:List Int),0⟩:AK)) q9 (rf.mono (λb hb=>hsN.1 b hb) (λ_ _=>rfl)) rb (rg.mono (λb hb=>hsN.1 b hb) (λ_ _=>rfl)) (.inl ⟨O,O⟩) (.inl ⟨O,O⟩) (.inl ⟨O,O⟩) (.inl ⟨O,O⟩) (.inl ⟨O,O⟩) (rh.mono (λb hb=>hsN.1 b hb) (λ_ _=>rfl)) rd) (CE.mk (x:=(⟨0,([(⟨100,150⟩:AF)]:List AF),[],[]⟩:Al)) re (ri.mono (λb hb=>hsN.1 b hb) (λ_ _=>rfl)) (.inl ⟨O,O⟩) (.inl ⟨O,O⟩)) a7) λda4 da5 da6 xy da7 dk p=>?_
         obtain⟨rfl,xz⟩:=p
         exact AC ⟨dk.siz,λb hb=>dk.same b hb⟩ O
        refine AQ.cons O ?_ ?_
        ·
         intro mq hh o
         intro rj rk da8 rm
         have hsN:=o.st c
         obtain rfl:rj= .bool true:=Eq.trans rk (congrArg Value.bool H)
         cases rm
         exact LF.q 1 (QF.pick O O O (AE (AC (An.refl _) O)))
        refine AQ.cons O ?_ ?_
        ·
         intro mq hh o
         intro da9 rn
         have hsN:=o.st c
         cases rn
         exact LF.q 1 (QF.mv O O (AE (AC (An.refl _) O)))
        refine AQ.cons O ?_ ?_
        ·
         intro mq hh o
         intro ro rq
         have hsN:=o.st c
         obtain rfl:ro= .bool true:=Eq.trans rq (congrArg Value.bool J)
         refine⟨82,O,.inl ⟨O,?_⟩⟩
         exact LF.q 1 (QF.ldo (vs:=[.int .i64 0,(.slice (some ⟨Z,0,none⟩) 1 1),.slice none 0 0,.slice none 0 0]) Af hsN O (mt (mt (mt (mt mh)))) O O FG O O (AE (AC (An.refl _) ⟨O,(iq (n:=0) O)⟩)))
        refine AQ.cons O ?_ ?_
        ·
         intro mq hh o
         intro eaa rr rs rt
         have hsN:=SN.st c o
         obtain⟨rfl,ru⟩:=rr
         obtain rfl:rs= .bool true:=Eq.trans rt (congrArg Value.bool J)
         refine⟨82,O,.inl ⟨O,?_⟩⟩
         have et:=u.trans (y.trans (z.trans (j.trans (g.trans (s.trans (k.trans (d.trans (SN.ext c.1 o))))))))
         have rv:=ay.mono' et
         refine LF.callb O O O OL O hsN (GC (St.all _) (CE.mk (x:=(⟨0,([(⟨100,150⟩:AF)]:List AF),[],[]⟩:Al)) ru (rv.mono (λb hb=>hsN.1 b hb) (λ_ _=>rfl)) (.inl ⟨O,O⟩) (.inl ⟨O,O⟩)) a8) λeab eac ead x0 eae dl p=>?_
         obtain⟨rfl,rx,x1⟩:=p
         exact AC ⟨dl.siz,λb hb=>dl.same b hb⟩ ⟨O,rx⟩
        refine AQ.cons O ?_ ?_
        ·
         intro mq hh o
         intro eaf ry rz r0
         have hsN:=o.st c
         obtain⟨rfl,eag⟩:=ry
         obtain rfl:rz= .bool true:=Eq.trans r0 (congrArg Value.bool J)
         refine⟨82,O,.inl ⟨O,?_⟩⟩
         exact LF.q 1 (QF.eql O O O (AE (AC (An.refl _) O)))
        refine AQ.cons O ?_ ?_
        ·
         intro mq hh o
         intro r1 r2 eah r3
         have hsN:=o.st c
         obtain rfl:r1= .bool true:=Eq.trans r2 (congrArg Value.bool J)
         cases r3
         exact LF.q 1 (QF.pick O O O (AE (AC (An.refl _) O)))
        refine AQ.cons O ?_ ?_
        ·
         intro mq hh o
         intro eai r4
         have hsN:=o.st c
         cases r4
         exact LF.q 1 (QF.mv O O (AE (AC (An.refl _) O)))
        refine AQ.cons O ?_ ?_
        ·
         intro mq hh o
         intro r5 r6
         have hsN:=o.st c
         obtain rfl:r5= .bool true:=Eq.trans r6 (congrArg Value.bool K)
         refine⟨87,O,.inl ⟨O,?_⟩⟩
         exact LF.q 1 (QF.ldo (vs:=[.string (ByteArray.mk #[98]),(.slice (some ⟨U,0,none⟩) 1 1),.int .i64 0,(.slice (some ⟨V,0,none⟩) 1 1),.slice none 0 0,.slice none 0 0,.slice none 0 0,.slice none 0 0,.slice none 0 0,(.slice (some ⟨W,0,none⟩) 3 3),.int .i64 0]) Af hsN O (mt (mt (mt (mt (mt mh))))) O O ET O O (AE (AC (An.refl _) ⟨O,(by decide),(iq (n:=0) O),(iq (n:=0) O)⟩)))
        refine AQ.cons O ?_ ?_
        ·
         intro mq hh o
         intro r7 r8
         have hsN:=o.st c
         obtain rfl:r7= .bool true:=Eq.trans r8 (congrArg Value.bool K)
         refine⟨87,O,.inl ⟨O,?_⟩⟩
         exact LF.q 1 (QF.ldo (vs:=[.int .i64 0,(.slice (some ⟨Z,0,none⟩) 1 1),.slice none 0 0,.slice none 0 0]) Af hsN O (mt (mt (mt (mt mh)))) O O FG O O (AE (AC (An.refl _) ⟨O,(iq (n:=0) O)⟩)))
        refine AQ.cons O ?_ ?_
        ·
         intro mq hh o
         intro r9 sa
         have hsN:=o.st c
         obtain rfl:r9= .bool true:=Eq.trans sa (congrArg Value.bool K)
         refine⟨87,O,.inl ⟨O,?_⟩⟩
         exact LF.q 1 (QF.ldo (vs:=[.int .i64 A.Hour,ac,ad,ae,af,ag,ah]) Af hsN O mh O O I6 O O (AE (AC (An.refl _) ⟨O,a6⟩)))
        refine AQ.cons O ?_ ?_
        ·
         intro mq hh o
         intro eaj sc eak sd eal se sf sg
         have hsN:=SN.st c o
         obtain⟨rfl,sh,si,sj⟩:=sc
         obtain⟨rfl,sk⟩:=sd
         obtain⟨rfl,sm⟩:=se
         obtain rfl:sf= .bool true:=Eq.trans sg (congrArg Value.bool K)
         refine⟨87,O,.inl ⟨O,?_⟩⟩
         have eu:=au.trans (Y.trans (C.trans (D.trans (F.trans (G.trans (u.trans (y.trans (z.trans (j.trans (g.trans (s.trans (k.trans (d.trans (SN.ext c.1 o))))))))))))))
         have sn:=av.mono' eu
         have ev:=Y.trans (C.trans (D.trans (F.trans (G.trans (u.trans (y.trans (z.trans (j.trans (g.trans (s.trans (k.trans (d.trans (SN.ext c.1 o)))))))))))))
         have so:=aw.mono' ev
         have ew:=C.trans (D.trans (F.trans (G.trans (u.trans (y.trans (z.trans (j.trans (g.trans (s.trans (k.trans (d.trans (SN.ext c.1 o))))))))))))
         have sp:=ax.mono' ew
         have ey:=u.trans (y.trans (z.trans (j.trans (g.trans (s.trans (k.trans (d.trans (SN.ext c.1 o))))))))
         have sq:=ay.mono' ey
         have sr:=az.mono' (d.trans (SN.ext c.1 o))
         have ss:=a0.mono' (d.trans (SN.ext c.1 o))
         have su:=a1.mono' (d.trans (SN.ext c.1 o))
         have sv:=a2.mono' (d.trans (SN.ext c.1 o))
         have sw:=a3.mono' (d.trans (SN.ext c.1 o))
         have sx:=a4.mono' (d.trans (SN.ext c.1 o))
         refine LF.callb O O O Rp O hsN (IB (St.all _) (BG.mk (x:=(⟨(ByteArray.mk #[98]),([(ByteArray.mk #[97])]:List ByteArray),0,Cc,[],[],[],[],[],([0,0,0]:List Int),0⟩:AK)) sh (sn.mono (λb hb=>hsN.1 b hb) (λ_ _=>rfl)) si (so.mono (λb hb=>hsN.1 b hb) (λ_ _=>rfl)) (.inl ⟨O,O⟩) (.inl ⟨O,O⟩) (.inl ⟨O,O⟩) (.inl ⟨O,O⟩) (.inl ⟨O,O⟩) (sp.mono (λb hb=>hsN.1 b hb) (λ_ _=>rfl)) sj) (CE.mk (x:=(⟨0,([(⟨100,150⟩:AF)]:List AF),[],[]⟩:Al)) sk (sq.mono (λb hb=>hsN.1 b hb) (λ_ _=>rfl)) (.inl ⟨O,O⟩) (.inl ⟨O,O⟩)) (EM.mk (x:=A) sm (sr.mono (λb hb=>hsN.1 b hb) (λ_ _=>rfl)) (ss.mono (λb hb=>hsN.1 b hb) (λ_ _=>rfl)) (su.mono (λb hb=>hsN.1 b hb) (λ_ _=>rfl)) (sv.mono (λb hb=>hsN.1 b hb) (λ_ _=>rfl)) (sw.mono (λb hb=>hsN.1 b hb) (λ_ _=>rfl)) (sx.mono (λb hb=>hsN.1 b hb) (λ_ _=>rfl))) bb) λeam ean eao x2 eap dm p=>?_
         obtain⟨rfl,x3⟩:=p
         exact AC ⟨dm.siz,λb hb=>dm.same b hb⟩ O
        refine AQ.cons O ?_ ?_
        ·
         intro mq hh o
         intro sy sz eaq s0
         have hsN:=o.st c
         obtain rfl:sy= .bool true:=Eq.trans sz (congrArg Value.bool K)
         cases s0
         exact LF.q 1 (QF.pick O O O (AE (AC (An.refl _) O)))
        refine AQ.cons O ?_ ?_
        ·
         intro mq hh o
         intro ear s1
         have hsN:=o.st c
         cases s1
         exact LF.q 1 (QF.mv O O (AE (AC (An.refl _) O)))
        refine AQ.cons O ?_ ?_
        ·
         intro mq hh o
         intro s2 s3
         have hsN:=o.st c
         obtain rfl:s2= .bool false:=Eq.trans s3 (congrArg Value.bool Q)
         exact⟨93,O,.inr ⟨_,O,(by simp [yb,undef]),O⟩⟩
        refine AQ.cons O ?_ ?_
        ·
         intro mq hh o
         intro s4 s5
         have hsN:=o.st c
         obtain rfl:s4= .bool false:=Eq.trans s5 (congrArg Value.bool Q)
         exact⟨93,O,.inr ⟨_,O,(by simp [yb,undef]),O⟩⟩
        refine AQ.cons O ?_ ?_
        ·
         intro mq hh o
         intro s6 s7
         have hsN:=SN.st c o
         obtain rfl:s6= .bool false:=Eq.trans s7 (congrArg Value.bool Q)
         exact⟨93,O,.inr ⟨_,O,(by simp [yb,undef]),O⟩⟩
        refine AQ.cons O ?_ ?_
        ·
         intro mq hh o
         intro s8 s9
         have hsN:=SN.st c o
         obtain rfl:s8= .bool false:=Eq.trans s9 (congrArg Value.bool Q)
         exact⟨93,O,.inr ⟨_,O,(by simp [yb,undef]),O⟩⟩
        refine AQ.cons O ?_ ?_
        ·
         intro mq hh o
         intro ta tb
         have hsN:=o.st c
         obtain rfl:ta= .bool false:=Eq.trans tb (congrArg Value.bool Q)
         exact⟨93,O,.inr ⟨_,O,(by simp [yb,undef]),O⟩⟩
        refine AQ.cons O ?_ ?_
        ·
         intro mq hh o
         intro tc td eas te
         have hsN:=o.st c
         obtain rfl:tc= .bool false:=Eq.trans td (congrArg Value.bool Q)
         cases te
         exact LF.q 1 (QF.pick O O O (AE (AC (An.refl _) O)))
        refine AQ.cons O ?_ ?_
        ·
         intro mq hh o
         intro eat tf
         have hsN:=o.st c
         cases tf
         exact LF.q 1 (QF.mv O O (AE (AC (An.refl _) O)))
        refine AQ.cons O ?_ ?_
        ·
         intro mq hh o
         intro eau tg
         have hsN:=o.st c
         cases tg
         exact⟨100,O,.inr ⟨_,O,(by simp [yb,undef]),O⟩⟩
        refine AQ.cons O ?_ ?_
        ·
         intro mq hh o
         intro eav th
         have hsN:=o.st c
         cases th
         exact⟨100,O,.inr ⟨_,O,(by simp [yb,undef]),O⟩⟩
        refine AQ.cons O ?_ ?_
        ·
         intro mq hh o
         intro eaw ti
         have hsN:=o.st c
         cases ti
         exact⟨100,O,.inr ⟨_,O,(by simp [yb,undef]),O⟩⟩
        refine AQ.cons O ?_ ?_
        ·
         intro mq hh o
         intro eax tj
         have hsN:=SN.st c o
         cases tj
         exact⟨100,O,.inr ⟨_,O,(by simp [yb,undef]),O⟩⟩
        refine AQ.cons O ?_ ?_
        ·
         intro mq hh o
         intro eay tk
         have hsN:=o.st c
         cases tk
         exact⟨100,O,.inr ⟨_,O,(by simp [yb,undef]),O⟩⟩
        refine AQ.cons O ?_ ?_
        ·
         intro mq hh o
         intro eaz tl
         have hsN:=SN.st c o
         cases tl
         exact⟨100,O,.inr ⟨_,O,(by simp [yb,undef]),O⟩⟩
        refine AQ.cons O ?_ ?_
        ·
         intro mq hh o
         intro ea0 tm ea1 tn
         have hsN:=o.st c
         cases tm
         cases tn
         exact LF.q 1 (QF.pick O O O (AE (AC (An.refl _) O)))
        refine AQ.cons O ?_ ?_
        ·
         intro mq hh o
         intro ea2 tp
         have hsN:=o.st c
         cases tp
         exact LF.q 1 (QF.as_ O O (AE (AC (An.refl _) O)))
        exact trivial
       intro ea3 dn ea4 tq
       have ez:=SN.st c dn
       cases tq
       exact LF.nil (kp [0] O) (WF.nil (λaa ww hf hw=>⟨_,_,hf.sub (kp [0] O),hw,ez,(SN.ext c.1 dn),trivial⟩))
      ·
       have ab:=A7 Q ab
       obtain⟨bi,bt,ab⟩:=bd ab
       obtain⟨aq,bu,ab⟩:=bd ab
       have tr:=Option.some.inj ab
       subst tr
       rcases ZE (decide (aq=0)) with ai|ai
       ·
        have X:=A8 ai X
        have ts:=Option.some.inj X
        subst ts
        refine IX (m:=[(8,.bool ((I&&(decide (t.1.Hour=1)))&&(decide ((↑t.1.Queue.length:Int)=0)))),(7,.pointer (some ⟨a5,0,none⟩)),(3,.pointer (some ⟨ba,0,none⟩)),(2,.pointer (some ⟨a9,0,none⟩))]) 33 (λi v hh=>match i with|0=>v= .bool ((I&&(decide (t.1.Hour=1)))&&(decide ((↑t.1.Queue.length:Int)=0)))|1=>v= .bool ((I&&(decide (t.1.Hour=1)))&&(decide ((↑t.1.Queue.length:Int)=0)))|2=>v= .agg #[.string (ByteArray.mk #[98]),(.slice (some ⟨U,0,none⟩) 1 1),.int .i64 0,(.slice (some ⟨V,0,none⟩) 1 1),.slice none 0 0,.slice none 0 0,.slice none 0 0,.slice none 0 0,.slice none 0 0,(.slice (some ⟨W,0,none⟩) 3 3),.int .i64 0]∧(ByteArray.mk #[98]).size≤maxLen∧AB 0∧AB 0|3=>v= .agg #[.int .i64 0,(.slice (some ⟨Z,0,none⟩) 1 1),.slice none 0 0,.slice none 0 0]∧AB 0|4=>v= .bool aj|5=>v= .bool aj|6=>v= .bool aj|7=>v= .agg #[.int .i64 0,(.slice (some ⟨Z,0,none⟩) 1 1),.slice none 0 0,.slice none 0 0]∧AB 0|8=>v= .int .i64 M∧AB M|9=>v= .bool (decide (M=50))|10=>v= .bool (decide (M=50))|11=>v= .bool (decide (M=50))|12=>v= .agg #[.string (ByteArray.mk #[98]),(.slice (some ⟨U,0,none⟩) 1 1),.int .i64 0,(.slice (some ⟨V,0,none⟩) 1 1),.slice none 0 0,.slice none 0 0,.slice none 0 0,.slice none 0 0,.slice none 0 0,(.slice (some ⟨W,0,none⟩) 3 3),.int .i64 0]∧(ByteArray.mk #[98]).size≤maxLen∧AB 0∧AB 0|13=>v= .agg #[.int .i64 0,(.slice (some ⟨Z,0,none⟩) 1 1),.slice none 0 0,.slice none 0 0]∧AB 0|14=>v= .agg #[.int .i64 A.Hour,ac,ad,ae,af,ag,ah]∧AB A.Hour|15=>v= .bool ar|16=>v= .bool ar|17=>v= .bool ar|18=>v= .agg #[.string (ByteArray.mk #[98]),(.slice (some ⟨U,0,none⟩) 1 1),.int .i64 0,(.slice (some ⟨V,0,none⟩) 1 1),.slice none 0 0,.slice none 0 0,.slice none 0 0,.slice none 0 0,.slice none 0 0,(.slice (some ⟨W,0,none⟩) 3 3),.int .i64 0]∧(ByteArray.mk #[98]).size≤maxLen∧AB 0∧AB 0|19=>v= .agg #[.int .i64 A.Hour,ac,ad,ae,af,ag,ah]∧AB A.Hour|20=>Rd (SN bg bh hh) hh CE v bi|21=>v= .int .i64 aq∧AB aq|22=>v= .bool (decide (aq=0))|23=>v= .bool (decide (aq=0))|24=>v= .bool (decide (aq=0))|25=>v=undef|26=>v=undef|27=>v=undef|28=>v=undef|29=>v=undef|30=>v=undef|31=>v= .bool false|32=>v= .bool false|_=>False) [[],[(0,76)],[(1,77)],[(1,77)],[(2,78),(3,79),(1,77)],[(1,77),(4,80)],[(5,81)],[(6,82)],[(7,83),(6,82)],[(8,84),(6,82)],[(6,82),(9,85)],[(10,86)],[(11,87)],[(11,87)],[(11,87)],[(12,88),(13,89),(14,90),(11,87)],[(11,87),(15,91)],[(16,92)],[(17,93)],[(17,93)],[(18,94),(19,95),(17,93)],[(20,96),(17,93)],[(21,97),(17,93)],[(17,93),(22,98)],[(23,99)],[(24,100)],[(24,100)],[(24,100)],[(24,100)],[(24,100)],[(24,100)],[(24,100),(30,106)],[(31,107)]] [(32,0)] mo (by kernel_rfl) [8,7,3,2] O (by kernel_rfl) (by kernel_rfl) (by kernel_rfl) (kp [8,7,3,2] O) (λi v h1 h2 o1 o2 hr=>?_) ?_ ?_
        ·match i,hr with
          |0,hr=>exact hr
          |1,hr=>exact hr
          |2,hr=>exact hr
          |3,hr=>exact hr
          |4,hr=>exact hr
          |5,hr=>exact hr
          |6,hr=>exact hr
          |7,hr=>exact hr
          |8,hr=>exact hr
          |9,hr=>exact hr
          |10,hr=>exact hr
          |11,hr=>exact hr
          |12,hr=>exact hr
          |13,hr=>exact hr
          |14,hr=>exact hr
          |15,hr=>exact hr
          |16,hr=>exact hr
          |17,hr=>exact hr
          |18,hr=>exact hr
          |19,hr=>exact hr
          |20,hr=>exact Rd.mono hr (SN.mono c.1 o1 o2)
          |21,hr=>exact hr
          |22,hr=>exact hr
          |23,hr=>exact hr
          |24,hr=>exact hr
          |25,hr=>exact hr
          |26,hr=>exact hr
          |27,hr=>exact hr
          |28,hr=>exact hr
          |29,hr=>exact hr
          |30,hr=>exact hr
          |31,hr=>exact hr
          |32,hr=>exact hr
          |_+33,hr=>exact hr.elim
        ·
         refine AQ.cons O ?_ ?_
         ·
          intro mq hh o
          have hsN:=o.st c
          exact LF.q 1 (QF.mv O O (AE (AC (An.refl _) O)))
         refine AQ.cons O ?_ ?_
         ·
          intro mq hh o
          intro ea5 tt
          have hsN:=o.st c
          cases tt
          exact LF.q 1 (QF.mv O O (AE (AC (An.refl _) O)))
         refine AQ.cons O ?_ ?_
         ·
          intro mq hh o
          intro tu tv
          have hsN:=o.st c
          obtain rfl:tu= .bool true:=Eq.trans tv (congrArg Value.bool H)
          refine⟨77,O,.inl ⟨O,?_⟩⟩
          exact LF.q 1 (QF.ldo (vs:=[.string (ByteArray.mk #[98]),(.slice (some ⟨U,0,none⟩) 1 1),.int .i64 0,(.slice (some ⟨V,0,none⟩) 1 1),.slice none 0 0,.slice none 0 0,.slice none 0 0,.slice none 0 0,.slice none 0 0,(.slice (some ⟨W,0,none⟩) 3 3),.int .i64 0]) Af hsN O (mt (mt (mt (mt (mt mh))))) O O ET O O (AE (AC (An.refl _) ⟨O,(by decide),(iq (n:=0) O),(iq (n:=0) O)⟩)))
         refine AQ.cons O ?_ ?_
         ·
          intro mq hh o
          intro tw tx
          have hsN:=o.st c
          obtain rfl:tw= .bool true:=Eq.trans tx (congrArg Value.bool H)
          refine⟨77,O,.inl ⟨O,?_⟩⟩
          exact LF.q 1 (QF.ldo (vs:=[.int .i64 0,(.slice (some ⟨Z,0,none⟩) 1 1),.slice none 0 0,.slice none 0 0]) Af hsN O (mt (mt (mt (mt mh)))) O O FG O O (AE (AC (An.refl _) ⟨O,(iq (n:=0) O)⟩)))
         refine AQ.cons O ?_ ?_
         ·
          intro mq hh o
          intro ea6 ty ea7 tz t0 t1
          have hsN:=SN.st c o
          obtain⟨rfl,t2,t3,t4⟩:=ty
          obtain⟨rfl,t5⟩:=tz
          obtain rfl:t0= .bool true:=Eq.trans t1 (congrArg Value.bool H)
          refine⟨77,O,.inl ⟨O,?_⟩⟩
          have e0:=au.trans (Y.trans (C.trans (D.trans (F.trans (G.trans (u.trans (y.trans (z.trans (j.trans (g.trans (s.trans (k.trans (d.trans (SN.ext c.1 o))))))))))))))
          have t6:=av.mono' e0
          have e1:=Y.trans (C.trans (D.trans (F.trans (G.trans (u.trans (y.trans (z.trans (j.trans (g.trans (s.trans (k.trans (d.trans (SN.ext c.1 o)))))))))))))
          have t7:=aw.mono' e1
          have e2:=C.trans (D.trans (F.trans (G.trans (u.trans (y.trans (z.trans (j.trans (g.trans (s.trans (k.trans (d.trans (SN.ext c.1 o))))))))))))
          have t8:=ax.mono' e2
          have e3:=u.trans (y.trans (z.trans (j.trans (g.trans (s.trans (k.trans (d.trans (SN.ext c.1 o))))))))
          have t9:=ay.mono' e3
          refine LF.callb O O O Nl O hsN (Er (St.all _) (BG.mk (x:=(⟨(ByteArray.mk #[98]),([(ByteArray.mk #[97])]:List ByteArray),0,Cc,[],[],[],[],[],([0,0,0]:List Int),0⟩:AK)) t2 (t6.mono (λb hb=>hsN.1 b hb) (λ_ _=>rfl)) t3 (t7.mono (λb hb=>hsN.1 b hb) (λ_ _=>rfl)) (.inl ⟨O,O⟩) (.inl ⟨O,O⟩) (.inl ⟨O,O⟩) (.inl ⟨O,O⟩) (.inl ⟨O,O⟩) (t8.mono (λb hb=>hsN.1 b hb) (λ_ _=>rfl)) t4) (CE.mk (x:=(⟨0,([(⟨100,150⟩:AF)]:List AF),[],[]⟩:Al)) t5 (t9.mono (λb hb=>hsN.1 b hb) (λ_ _=>rfl)) (.inl ⟨O,O⟩) (.inl ⟨O,O⟩)) a7) λea8 ea9 faa x4 fab dp p=>?_
          obtain⟨rfl,x5⟩:=p
          exact AC ⟨dp.siz,λb hb=>dp.same b hb⟩ O
         refine AQ.cons O ?_ ?_
         ·
          intro mq hh o
          intro ua ub fac uc
          have hsN:=o.st c
          obtain rfl:ua= .bool true:=Eq.trans ub (congrArg Value.bool H)
          cases uc
          exact LF.q 1 (QF.pick O O O (AE (AC (An.refl _) O)))
         refine AQ.cons O ?_ ?_
         ·
          intro mq hh o
          intro fad ud
          have hsN:=o.st c
          cases ud
          exact LF.q 1 (QF.mv O O (AE (AC (An.refl _) O)))
         refine AQ.cons O ?_ ?_
         ·
          intro mq hh o
          intro ue uf
          have hsN:=o.st c
          obtain rfl:ue= .bool true:=Eq.trans uf (congrArg Value.bool J)
          refine⟨82,O,.inl ⟨O,?_⟩⟩
          exact LF.q 1 (QF.ldo (vs:=[.int .i64 0,(.slice (some ⟨Z,0,none⟩) 1 1),.slice none 0 0,.slice none 0 0]) Af hsN O (mt (mt (mt (mt mh)))) O O FG O O (AE (AC (An.refl _) ⟨O,(iq (n:=0) O)⟩)))
         refine AQ.cons O ?_ ?_
         ·
          intro mq hh o
          intro faf ug uh ui
          have hsN:=SN.st c o
          obtain⟨rfl,uj⟩:=ug
          obtain rfl:uh= .bool true:=Eq.trans ui (congrArg Value.bool J)
          refine⟨82,O,.inl ⟨O,?_⟩⟩
          have e5:=u.trans (y.trans (z.trans (j.trans (g.trans (s.trans (k.trans (d.trans (SN.ext c.1 o))))))))
          have uk:=ay.mono' e5
          refine LF.callb O O O OL O hsN (GC (St.all _) (CE.mk (x:=(⟨0,([(⟨100,150⟩:AF)]:List AF),[],[]⟩:Al)) uj (uk.mono (λb hb=>hsN.1 b hb) (λ_ _=>rfl)) (.inl ⟨O,O⟩) (.inl ⟨O,O⟩)) a8) λfag fah fai x6 faj dq p=>?_
          obtain⟨rfl,ul,x7⟩:=p
          exact AC ⟨dq.siz,λb hb=>dq.same b hb⟩ ⟨O,ul⟩
         refine AQ.cons O ?_ ?_
         ·
          intro mq hh o
          intro fak um un uo
          have hsN:=o.st c
          obtain⟨rfl,fal⟩:=um
          obtain rfl:un= .bool true:=Eq.trans uo (congrArg Value.bool J)
          refine⟨82,O,.inl ⟨O,?_⟩⟩
          exact LF.q 1 (QF.eql O O O (AE (AC (An.refl _) O)))
         refine AQ.cons O ?_ ?_
         ·
          intro mq hh o
          intro up uq fam ur
          have hsN:=o.st c
          obtain rfl:up= .bool true:=Eq.trans uq (congrArg Value.bool J)
          cases ur
          exact LF.q 1 (QF.pick O O O (AE (AC (An.refl _) O)))
         refine AQ.cons O ?_ ?_
         ·
          intro mq hh o
          intro fan us
          have hsN:=o.st c
          cases us
          exact LF.q 1 (QF.mv O O (AE (AC (An.refl _) O)))
         refine AQ.cons O ?_ ?_
         ·
          intro mq hh o
          intro ut uu
          have hsN:=o.st c
          obtain rfl:ut= .bool true:=Eq.trans uu (congrArg Value.bool K)
          refine⟨87,O,.inl ⟨O,?_⟩⟩
          exact LF.q 1 (QF.ldo (vs:=[.string (ByteArray.mk #[98]),(.slice (some ⟨U,0,none⟩) 1 1),.int .i64 0,(.slice (some ⟨V,0,none⟩) 1 1),.slice none 0 0,.slice none 0 0,.slice none 0 0,.slice none 0 0,.slice none 0 0,(.slice (some ⟨W,0,none⟩) 3 3),.int .i64 0]) Af hsN O (mt (mt (mt (mt (mt mh))))) O O ET O O (AE (AC (An.refl _) ⟨O,(by decide),(iq (n:=0) O),(iq (n:=0) O)⟩)))
         refine AQ.cons O ?_ ?_
         ·
          intro mq hh o
          intro uv uw
          have hsN:=o.st c
          obtain rfl:uv= .bool true:=Eq.trans uw (congrArg Value.bool K)
          refine⟨87,O,.inl ⟨O,?_⟩⟩
          exact LF.q 1 (QF.ldo (vs:=[.int .i64 0,(.slice (some ⟨Z,0,none⟩) 1 1),.slice none 0 0,.slice none 0 0]) Af hsN O (mt (mt (mt (mt mh)))) O O FG O O (AE (AC (An.refl _) ⟨O,(iq (n:=0) O)⟩)))
         refine AQ.cons O ?_ ?_
         ·
          intro mq hh o
          intro ux uy
          have hsN:=o.st c
          obtain rfl:ux= .bool true:=Eq.trans uy (congrArg Value.bool K)
          refine⟨87,O,.inl ⟨O,?_⟩⟩
          exact LF.q 1 (QF.ldo (vs:=[.int .i64 A.Hour,ac,ad,ae,af,ag,ah]) Af hsN O mh O O I6 O O (AE (AC (An.refl _) ⟨O,a6⟩)))
         refine AQ.cons O ?_ ?_
         ·
          intro mq hh o
          intro fap uz faq u0 far u1 u2 u3
          have hsN:=SN.st c o
          obtain⟨rfl,u4,u5,u6⟩:=uz
          obtain⟨rfl,u7⟩:=u0
          obtain⟨rfl,u8⟩:=u1
          obtain rfl:u2= .bool true:=Eq.trans u3 (congrArg Value.bool K)
          refine⟨87,O,.inl ⟨O,?_⟩⟩
          have e6:=au.trans (Y.trans (C.trans (D.trans (F.trans (G.trans (u.trans (y.trans (z.trans (j.trans (g.trans (s.trans (k.trans (d.trans (SN.ext c.1 o))))))))))))))
          have u9:=av.mono' e6
          have e7:=Y.trans (C.trans (D.trans (F.trans (G.trans (u.trans (y.trans (z.trans (j.trans (g.trans (s.trans (k.trans (d.trans (SN.ext c.1 o)))))))))))))
          have va:=aw.mono' e7
          have e9:=C.trans (D.trans (F.trans (G.trans (u.trans (y.trans (z.trans (j.trans (g.trans (s.trans (k.trans (d.trans (SN.ext c.1 o))))))))))))
          have vb:=ax.mono' e9
          have fb:=u.trans (y.trans (z.trans (j.trans (g.trans (s.trans (k.trans (d.trans (SN.ext c.1 o))))))))
          have vc:=ay.mono' fb
          have vd:=az.mono' (d.trans (SN.ext c.1 o))
          have ve:=a0.mono' (d.trans (SN.ext c.1 o))
          have vf:=a1.mono' (d.trans (SN.ext c.1 o))
          have vg:=a2.mono' (d.trans (SN.ext c.1 o))
          have vh:=a3.mono' (d.trans (SN.ext c.1 o))
          have vi:=a4.mono' (d.trans (SN.ext c.1 o))
          refine LF.callb O O O Rp O hsN (IB (St.all _) (BG.mk (x:=(⟨(ByteArray.mk #[98]),([(ByteArray.mk #[97])]:List ByteArray),0,Cc,[],[],[],[],[],([0,0,0]:List Int),0⟩:AK)) u4 (u9.mono (λb hb=>hsN.1 b hb) (λ_ _=>rfl)) u5 (va.mono (λb hb=>hsN.1 b hb) (λ_ _=>rfl)) (.inl ⟨O,O⟩) (.inl ⟨O,O⟩) (.inl ⟨O,O⟩) (.inl ⟨O,O⟩) (.inl ⟨O,O⟩) (vb.mono (λb hb=>hsN.1 b hb) (λ_ _=>rfl)) u6) (CE.mk (x:=(⟨0,([(⟨100,150⟩:AF)]:List AF),[],[]⟩:Al)) u7 (vc.mono (λb hb=>hsN.1 b hb) (λ_ _=>rfl)) (.inl ⟨O,O⟩) (.inl ⟨O,O⟩)) (EM.mk (x:=A) u8 (vd.mono (λb hb=>hsN.1 b hb) (λ_ _=>rfl)) (ve.mono (λb hb=>hsN.1 b hb) (λ_ _=>rfl)) (vf.mono (λb hb=>hsN.1 b hb) (λ_ _=>rfl)) (vg.mono (λb hb=>hsN.1 b hb) (λ_ _=>rfl)) (vh.mono (λb hb=>hsN.1 b hb) (λ_ _=>rfl)) (vi.mono (λb hb=>hsN.1 b hb) (λ_ _=>rfl))) bb) λfas fat fau x8 fav dr p=>?_
          obtain⟨rfl,x9⟩:=p
          exact AC ⟨dr.siz,λb hb=>dr.same b hb⟩ O
         refine AQ.cons O ?_ ?_
         ·
          intro mq hh o
          intro vj vk faw vl
          have hsN:=o.st c
          obtain rfl:vj= .bool true:=Eq.trans vk (congrArg Value.bool K)
          cases vl
          exact LF.q 1 (QF.pick O O O (AE (AC (An.refl _) O)))
         refine AQ.cons O ?_ ?_
         ·
          intro mq hh o
          intro fax vm
          have hsN:=o.st c
          cases vm
          exact LF.q 1 (QF.mv O O (AE (AC (An.refl _) O)))
         refine AQ.cons O ?_ ?_
         ·
          intro mq hh o
          intro vn vo
          have hsN:=o.st c
          obtain rfl:vn= .bool true:=Eq.trans vo (congrArg Value.bool Q)
          refine⟨93,O,.inl ⟨O,?_⟩⟩
          exact LF.q 1 (QF.ldo (vs:=[.string (ByteArray.mk #[98]),(.slice (some ⟨U,0,none⟩) 1 1),.int .i64 0,(.slice (some ⟨V,0,none⟩) 1 1),.slice none 0 0,.slice none 0 0,.slice none 0 0,.slice none 0 0,.slice none 0 0,(.slice (some ⟨W,0,none⟩) 3 3),.int .i64 0]) Af hsN O (mt (mt (mt (mt (mt mh))))) O O ET O O (AE (AC (An.refl _) ⟨O,(by decide),(iq (n:=0) O),(iq (n:=0) O)⟩)))
         refine AQ.cons O ?_ ?_
         ·
          intro mq hh o
          intro vp vq
          have hsN:=o.st c
          obtain rfl:vp= .bool true:=Eq.trans vq (congrArg Value.bool Q)
          refine⟨93,O,.inl ⟨O,?_⟩⟩
          exact LF.q 1 (QF.ldo (vs:=[.int .i64 A.Hour,ac,ad,ae,af,ag,ah]) Af hsN O mh O O I6 O O (AE (AC (An.refl _) ⟨O,a6⟩)))
         refine AQ.cons O ?_ ?_
         ·
          intro mq hh o
          intro fay vr faz vt vu vv
          have hsN:=SN.st c o
          obtain⟨rfl,vw,vx,vy⟩:=vr
          obtain⟨rfl,vz⟩:=vt
          obtain rfl:vu= .bool true:=Eq.trans vv (congrArg Value.bool Q)
          refine⟨93,O,.inl ⟨O,?_⟩⟩
          have hsF:=hsN.fz
          have fc:=au.trans (Y.trans (C.trans (D.trans (F.trans (G.trans (u.trans (y.trans (z.trans (j.trans (g.trans (s.trans (k.trans (d.trans (SN.ext c.1 o))))))))))))))
          have v0:=av.mono' fc
          have fd:=Y.trans (C.trans (D.trans (F.trans (G.trans (u.trans (y.trans (z.trans (j.trans (g.trans (s.trans (k.trans (d.trans (SN.ext c.1 o)))))))))))))
          have v1:=aw.mono' fd
          have fe:=C.trans (D.trans (F.trans (G.trans (u.trans (y.trans (z.trans (j.trans (g.trans (s.trans (k.trans (d.trans (SN.ext c.1 o))))))))))))
          have v2:=ax.mono' fe
          have v3:=az.mono' (d.trans (SN.ext c.1 o))
          have v4:=a0.mono' (d.trans (SN.ext c.1 o))
          have v5:=a1.mono' (d.trans (SN.ext c.1 o))
          have v6:=a2.mono' (d.trans (SN.ext c.1 o))
          have v7:=a3.mono' (d.trans (SN.ext c.1 o))
          have v8:=a4.mono' (d.trans (SN.ext c.1 o))
          refine LF.call O O O UY O (KO hsF (BG.mk (x:=(⟨(ByteArray.mk #[98]),([(ByteArray.mk #[97])]:List ByteArray),0,Cc,[],[],[],[],[],([0,0,0]:List Int),0⟩:AK)) vw v0 vx v1 (.inl ⟨O,O⟩) (.inl ⟨O,O⟩) (.inl ⟨O,O⟩) (.inl ⟨O,O⟩) (.inl ⟨O,O⟩) v2 vy) (EM.mk (x:=A) vz v3 v4 v5 v6 v7 v8) bt) λfa0 fa1 fa2 v9 p=>?_
          obtain⟨wa,ff⟩:=p
          have bv:=Fz.done o v9 ff
          exact AC bv.1 (Rd.mono wa bv.2)
         refine AQ.cons O ?_ ?_
         ·
          intro mq hh o
          intro wb bw wc wd
          have hsN:=SN.st c o
          have bw:Rd _ _ CE wb bi:=bw
          obtain rfl:wc= .bool true:=Eq.trans wd (congrArg Value.bool Q)
          refine⟨93,O,.inl ⟨O,?_⟩⟩
          refine LF.callb O O O OL O hsN (GC (St.all _) (bw.mono ⟨λb hb=>hsN.1 b hb,λ_ _=>rfl,Nat.le_refl _⟩) bu) λfa3 fa4 fa5 ya fa6 ds p=>?_
          obtain⟨rfl,we,yc⟩:=p
          exact AC ⟨ds.siz,λb hb=>ds.same b hb⟩ ⟨O,we⟩
         refine AQ.cons O ?_ ?_
         ·
          intro mq hh o
          intro fa7 wf wg wh
          have hsN:=o.st c
          obtain⟨rfl,fa8⟩:=wf
          obtain rfl:wg= .bool true:=Eq.trans wh (congrArg Value.bool Q)
          refine⟨93,O,.inl ⟨O,?_⟩⟩
          exact LF.q 1 (QF.eql O O O (AE (AC (An.refl _) O)))
         refine AQ.cons O ?_ ?_
         ·
          intro mq hh o
          intro wi wj fa9 wk
          have hsN:=o.st c
          obtain rfl:wi= .bool true:=Eq.trans wj (congrArg Value.bool Q)
          cases wk
          exact LF.q 1 (QF.pick O O O (AE (AC (An.refl _) O)))
         refine AQ.cons O ?_ ?_
         ·
          intro mq hh o
          intro gaa wl
          have hsN:=o.st c
          cases wl
          exact LF.q 1 (QF.mv O O (AE (AC (An.refl _) O)))
         refine AQ.cons O ?_ ?_
         ·
          intro mq hh o
          intro wm wn
          have hsN:=o.st c
          obtain rfl:wm= .bool false:=Eq.trans wn (congrArg Value.bool ai)
          exact⟨100,O,.inr ⟨_,O,(by simp [yb,undef]),O⟩⟩
         refine AQ.cons O ?_ ?_
         ·
          intro mq hh o
          intro wo wp
          have hsN:=o.st c
          obtain rfl:wo= .bool false:=Eq.trans wp (congrArg Value.bool ai)
          exact⟨100,O,.inr ⟨_,O,(by simp [yb,undef]),O⟩⟩
         refine AQ.cons O ?_ ?_
         ·
          intro mq hh o
          intro wq wr
          have hsN:=o.st c
          obtain rfl:wq= .bool false:=Eq.trans wr (congrArg Value.bool ai)
          exact⟨100,O,.inr ⟨_,O,(by simp [yb,undef]),O⟩⟩
         refine AQ.cons O ?_ ?_
         ·
          intro mq hh o
          intro ws wt
          have hsN:=SN.st c o
          obtain rfl:ws= .bool false:=Eq.trans wt (congrArg Value.bool ai)
          exact⟨100,O,.inr ⟨_,O,(by simp [yb,undef]),O⟩⟩
         refine AQ.cons O ?_ ?_
         ·
          intro mq hh o
          intro wu wv
          have hsN:=o.st c
          obtain rfl:wu= .bool false:=Eq.trans wv (congrArg Value.bool ai)
          exact⟨100,O,.inr ⟨_,O,(by simp [yb,undef]),O⟩⟩
         refine AQ.cons O ?_ ?_
         ·
          intro mq hh o
          intro wx wy
          have hsN:=SN.st c o
          obtain rfl:wx= .bool false:=Eq.trans wy (congrArg Value.bool ai)
          exact⟨100,O,.inr ⟨_,O,(by simp [yb,undef]),O⟩⟩
         refine AQ.cons O ?_ ?_
         ·
          intro mq hh o
          intro wz w0 gab w1
          have hsN:=o.st c
          obtain rfl:wz= .bool false:=Eq.trans w0 (congrArg Value.bool ai)
          cases w1
          exact LF.q 1 (QF.pick O O O (AE (AC (An.refl _) O)))
         refine AQ.cons O ?_ ?_
         ·
          intro mq hh o
          intro yd fg
          have hsN:=o.st c
          cases fg
          exact LF.q 1 (QF.as_ O O (AE (AC (An.refl _) O)))
         exact trivial
        intro ye bx yf fh
        have ce:=SN.st c bx
        cases fh
        exact LF.nil (kp [0] O) (WF.nil (λaa ww hf hw=>⟨_,_,hf.sub (kp [0] O),hw,ce,(SN.ext c.1 bx),trivial⟩))
       ·
        have X:=A7 ai X
        obtain⟨bz,cf,X⟩:=bd X
        obtain⟨bc,cg,X⟩:=bd X
        have fi:=Option.some.inj X
        subst fi
        refine IX (m:=[(8,.bool ((I&&(decide (t.1.Hour=1)))&&(decide ((↑t.1.Queue.length:Int)=0)))),(7,.pointer (some ⟨a5,0,none⟩)),(3,.pointer (some ⟨ba,0,none⟩)),(2,.pointer (some ⟨a9,0,none⟩))]) 33 (λi v hh=>match i with|0=>v= .bool ((I&&(decide (t.1.Hour=1)))&&(decide ((↑t.1.Queue.length:Int)=0)))|1=>v= .bool ((I&&(decide (t.1.Hour=1)))&&(decide ((↑t.1.Queue.length:Int)=0)))|2=>v= .agg #[.string (ByteArray.mk #[98]),(.slice (some ⟨U,0,none⟩) 1 1),.int .i64 0,(.slice (some ⟨V,0,none⟩) 1 1),.slice none 0 0,.slice none 0 0,.slice none 0 0,.slice none 0 0,.slice none 0 0,(.slice (some ⟨W,0,none⟩) 3 3),.int .i64 0]∧(ByteArray.mk #[98]).size≤maxLen∧AB 0∧AB 0|3=>v= .agg #[.int .i64 0,(.slice (some ⟨Z,0,none⟩) 1 1),.slice none 0 0,.slice none 0 0]∧AB 0|4=>v= .bool aj|5=>v= .bool aj|6=>v= .bool aj|7=>v= .agg #[.int .i64 0,(.slice (some ⟨Z,0,none⟩) 1 1),.slice none 0 0,.slice none 0 0]∧AB 0|8=>v= .int .i64 M∧AB M|9=>v= .bool (decide (M=50))|10=>v= .bool (decide (M=50))|11=>v= .bool (decide (M=50))|12=>v= .agg #[.string (ByteArray.mk #[98]),(.slice (some ⟨U,0,none⟩) 1 1),.int .i64 0,(.slice (some ⟨V,0,none⟩) 1 1),.slice none 0 0,.slice none 0 0,.slice none 0 0,.slice none 0 0,.slice none 0 0,(.slice (some ⟨W,0,none⟩) 3 3),.int .i64 0]∧(ByteArray.mk #[98]).size≤maxLen∧AB 0∧AB 0|13=>v= .agg #[.int .i64 0,(.slice (some ⟨Z,0,none⟩) 1 1),.slice none 0 0,.slice none 0 0]∧AB 0|14=>v= .agg #[.int .i64 A.Hour,ac,ad,ae,af,ag,ah]∧AB A.Hour|15=>v= .bool ar|16=>v= .bool ar|17=>v= .bool ar|18=>v= .agg #[.string (ByteArray.mk #[98]),(.slice (some ⟨U,0,none⟩) 1 1),.int .i64 0,(.slice (some ⟨V,0,none⟩) 1 1),.slice none 0 0,.slice none 0 0,.slice none 0 0,.slice none 0 0,.slice none 0 0,(.slice (some ⟨W,0,none⟩) 3 3),.int .i64 0]∧(ByteArray.mk #[98]).size≤maxLen∧AB 0∧AB 0|19=>v= .agg #[.int .i64 A.Hour,ac,ad,ae,af,ag,ah]∧AB A.Hour|20=>Rd (SN bg bh hh) hh CE v bi|21=>v= .int .i64 aq∧AB aq|22=>v= .bool (decide (aq=0))|23=>v= .bool (decide (aq=0))|24=>v= .bool (decide (aq=0))|25=>v= .agg #[.string (ByteArray.mk #[98]),(.slice (some ⟨U,0,none⟩) 1 1),.int .i64 0,(.slice (some ⟨V,0,none⟩) 1 1),.slice none 0 0,.slice none 0 0,.slice none 0 0,.slice none 0 0,.slice none 0 0,(.slice (some ⟨W,0,none⟩) 3 3),.int .i64 0]∧(ByteArray.mk #[98]).size≤maxLen∧AB 0∧AB 0|26=>v= .agg #[.string (ByteArray.mk #[98]),(.slice (some ⟨U,0,none⟩) 1 1),.int .i64 0,(.slice (some ⟨V,0,none⟩) 1 1),.slice none 0 0,.slice none 0 0,.slice none 0 0,.slice none 0 0,.slice none 0 0,(.slice (some ⟨W,0,none⟩) 3 3),.int .i64 0]∧(ByteArray.mk #[98]).size≤maxLen∧AB 0∧AB 0|27=>v= .agg #[.int .i64 A.Hour,ac,ad,ae,af,ag,ah]∧AB A.Hour|28=>Rd (SN bg bh hh) hh CE v bz|29=>v= .agg #[.int .i64 A.Hour,ac,ad,ae,af,ag,ah]∧AB A.Hour|30=>v= .bool bc|31=>v= .bool bc|32=>v= .bool bc|_=>False) [[],[(0,76)],[(1,77)],[(1,77)],[(2,78),(3,79),(1,77)],[(1,77),(4,80)],[(5,81)],[(6,82)],[(7,83),(6,82)],[(8,84),(6,82)],[(6,82),(9,85)],[(10,86)],[(11,87)],[(11,87)],[(11,87)],[(12,88),(13,89),(14,90),(11,87)],[(11,87),(15,91)],[(16,92)],[(17,93)],[(17,93)],[(18,94),(19,95),(17,93)],[(20,96),(17,93)],[(21,97),(17,93)],[(17,93),(22,98)],[(23,99)],[(24,100)],[(24,100)],[(24,100)],[(26,102),(27,103),(24,100)],[(24,100)],[(25,101),(28,104),(29,105),(24,100)],[(24,100),(30,106)],[(31,107)]] [(32,0)] mo (by kernel_rfl) [8,7,3,2] O (by kernel_rfl) (by kernel_rfl) (by kernel_rfl) (kp [8,7,3,2] O) (λi v h1 h2 o1 o2 hr=>?_) ?_ ?_
        ·match i,hr with
          |0,hr=>exact hr
          |1,hr=>exact hr
          |2,hr=>exact hr
          |3,hr=>exact hr
          |4,hr=>exact hr
          |5,hr=>exact hr
          |6,hr=>exact hr
          |7,hr=>exact hr
          |8,hr=>exact hr
          |9,hr=>exact hr
          |10,hr=>exact hr
          |11,hr=>exact hr
          |12,hr=>exact hr
          |13,hr=>exact hr
          |14,hr=>exact hr
          |15,hr=>exact hr
          |16,hr=>exact hr
          |17,hr=>exact hr
          |18,hr=>exact hr
          |19,hr=>exact hr
          |20,hr=>exact Rd.mono hr (SN.mono c.1 o1 o2)
          |21,hr=>exact hr
          |22,hr=>exact hr
          |23,hr=>exact hr
          |24,hr=>exact hr
          |25,hr=>exact hr
          |26,hr=>exact hr
          |27,hr=>exact hr
          |28,hr=>exact Rd.mono hr (SN.mono c.1 o1 o2)
          |29,hr=>exact hr
          |30,hr=>exact hr
          |31,hr=>exact hr
          |32,hr=>exact hr
          |_+33,hr=>exact hr.elim
        ·
         refine AQ.cons O ?_ ?_
         ·
          intro mq hh o
          have hsN:=o.st c
          exact LF.q 1 (QF.mv O O (AE (AC (An.refl _) O)))
         refine AQ.cons O ?_ ?_
         ·
          intro mq hh o
          intro yg fj
          have hsN:=o.st c
          cases fj
          exact LF.q 1 (QF.mv O O (AE (AC (An.refl _) O)))
         refine AQ.cons O ?_ ?_
         ·
          intro mq hh o
          intro fk fl
          have hsN:=o.st c
          obtain rfl:fk= .bool true:=Eq.trans fl (congrArg Value.bool H)
          refine⟨77,O,.inl ⟨O,?_⟩⟩
          exact LF.q 1 (QF.ldo (vs:=[.string (ByteArray.mk #[98]),(.slice (some ⟨U,0,none⟩) 1 1),.int .i64 0,(.slice (some ⟨V,0,none⟩) 1 1),.slice none 0 0,.slice none 0 0,.slice none 0 0,.slice none 0 0,.slice none 0 0,(.slice (some ⟨W,0,none⟩) 3 3),.int .i64 0]) Af hsN O (mt (mt (mt (mt (mt mh))))) O O ET O O (AE (AC (An.refl _) ⟨O,(by decide),(iq (n:=0) O),(iq (n:=0) O)⟩)))
         refine AQ.cons O ?_ ?_
         ·
          intro mq hh o
          intro fm fn
          have hsN:=o.st c
          obtain rfl:fm= .bool true:=Eq.trans fn (congrArg Value.bool H)
          refine⟨77,O,.inl ⟨O,?_⟩⟩
          exact LF.q 1 (QF.ldo (vs:=[.int .i64 0,(.slice (some ⟨Z,0,none⟩) 1 1),.slice none 0 0,.slice none 0 0]) Af hsN O (mt (mt (mt (mt mh)))) O O FG O O (AE (AC (An.refl _) ⟨O,(iq (n:=0) O)⟩)))
         refine AQ.cons O ?_ ?_
         ·
          intro mq hh o
          intro yh fo yi fp fq fr
          have hsN:=SN.st c o
          obtain⟨rfl,fs,ft,fu⟩:=fo
          obtain⟨rfl,fv⟩:=fp
          obtain rfl:fq= .bool true:=Eq.trans fr (congrArg Value.bool H)
          refine⟨77,O,.inl ⟨O,?_⟩⟩
          have ch:=au.trans (Y.trans (C.trans (D.trans (F.trans (G.trans (u.trans (y.trans (z.trans (j.trans (g.trans (s.trans (k.trans (d.trans (SN.ext c.1 o))))))))))))))
          have fw:=av.mono' ch
          have ci:=Y.trans (C.trans (D.trans (F.trans (G.trans (u.trans (y.trans (z.trans (j.trans (g.trans (s.trans (k.trans (d.trans (SN.ext c.1 o)))))))))))))
          have fx:=aw.mono' ci
          have cj:=C.trans (D.trans (F.trans (G.trans (u.trans (y.trans (z.trans (j.trans (g.trans (s.trans (k.trans (d.trans (SN.ext c.1 o))))))))))))
          have fy:=ax.mono' cj
          have ck:=u.trans (y.trans (z.trans (j.trans (g.trans (s.trans (k.trans (d.trans (SN.ext c.1 o))))))))
          have f0:=ay.mono' ck
          refine LF.callb O O O Nl O hsN (Er (St.all _) (BG.mk (x:=(⟨(ByteArray.mk #[98]),([(ByteArray.mk #[97])]:List ByteArray),0,Cc,[],[],[],[],[],([0,0,0]:List Int),0⟩:AK)) fs (fw.mono (λb hb=>hsN.1 b hb) (λ_ _=>rfl)) ft (fx.mono (λb hb=>hsN.1 b hb) (λ_ _=>rfl)) (.inl ⟨O,O⟩) (.inl ⟨O,O⟩) (.inl ⟨O,O⟩) (.inl ⟨O,O⟩) (.inl ⟨O,O⟩) (fy.mono (λb hb=>hsN.1 b hb) (λ_ _=>rfl)) fu) (CE.mk (x:=(⟨0,([(⟨100,150⟩:AF)]:List AF),[],[]⟩:Al)) fv (f0.mono (λb hb=>hsN.1 b hb) (λ_ _=>rfl)) (.inl ⟨O,O⟩) (.inl ⟨O,O⟩)) a7) λyj yk yl w2 ym b0 p=>?_
          obtain⟨rfl,w3⟩:=p
          exact AC ⟨b0.siz,λb hb=>b0.same b hb⟩ O
         refine AQ.cons O ?_ ?_
         ·
          intro mq hh o
          intro f1 f2 yn f3
          have hsN:=o.st c
          obtain rfl:f1= .bool true:=Eq.trans f2 (congrArg Value.bool H)
          cases f3
          exact LF.q 1 (QF.pick O O O (AE (AC (An.refl _) O)))
         refine AQ.cons O ?_ ?_
         ·
          intro mq hh o
          intro yo f4
          have hsN:=o.st c
          cases f4
          exact LF.q 1 (QF.mv O O (AE (AC (An.refl _) O)))
         refine AQ.cons O ?_ ?_
         ·
          intro mq hh o
          intro f5 f6
          have hsN:=o.st c
          obtain rfl:f5= .bool true:=Eq.trans f6 (congrArg Value.bool J)
          refine⟨82,O,.inl ⟨O,?_⟩⟩
          exact LF.q 1 (QF.ldo (vs:=[.int .i64 0,(.slice (some ⟨Z,0,none⟩) 1 1),.slice none 0 0,.slice none 0 0]) Af hsN O (mt (mt (mt (mt mh)))) O O FG O O (AE (AC (An.refl _) ⟨O,(iq (n:=0) O)⟩)))
         refine AQ.cons O ?_ ?_
         ·
          intro mq hh o
          intro yp f7 f8 f9
          have hsN:=SN.st c o
          obtain⟨rfl,ga⟩:=f7
          obtain rfl:f8= .bool true:=Eq.trans f9 (congrArg Value.bool J)
          refine⟨82,O,.inl ⟨O,?_⟩⟩
          have cl:=u.trans (y.trans (z.trans (j.trans (g.trans (s.trans (k.trans (d.trans (SN.ext c.1 o))))))))
          have gb:=ay.mono' cl
          refine LF.callb O O O OL O hsN (GC (St.all _) (CE.mk (x:=(⟨0,([(⟨100,150⟩:AF)]:List AF),[],[]⟩:Al)) ga (gb.mono (λb hb=>hsN.1 b hb) (λ_ _=>rfl)) (.inl ⟨O,O⟩) (.inl ⟨O,O⟩)) a8) λyq yr ys w4 yt b2 p=>?_
          obtain⟨rfl,gc,w5⟩:=p
          exact AC ⟨b2.siz,λb hb=>b2.same b hb⟩ ⟨O,gc⟩
         refine AQ.cons O ?_ ?_
         ·
          intro mq hh o
          intro yu ge gf gg
          have hsN:=o.st c
          obtain⟨rfl,yv⟩:=ge
          obtain rfl:gf= .bool true:=Eq.trans gg (congrArg Value.bool J)
          refine⟨82,O,.inl ⟨O,?_⟩⟩
          exact LF.q 1 (QF.eql O O O (AE (AC (An.refl _) O)))
         refine AQ.cons O ?_ ?_
         ·
          intro mq hh o
          intro gh gi yw gj
          have hsN:=o.st c
          obtain rfl:gh= .bool true:=Eq.trans gi (congrArg Value.bool J)
          cases gj
          exact LF.q 1 (QF.pick O O O (AE (AC (An.refl _) O)))
         refine AQ.cons O ?_ ?_
         ·
          intro mq hh o
          intro yx gk
          have hsN:=o.st c
          cases gk
          exact LF.q 1 (QF.mv O O (AE (AC (An.refl _) O)))
         refine AQ.cons O ?_ ?_
         ·
          intro mq hh o
          intro gl gm
          have hsN:=o.st c
          obtain rfl:gl= .bool true:=Eq.trans gm (congrArg Value.bool K)
          refine⟨87,O,.inl ⟨O,?_⟩⟩
          exact LF.q 1 (QF.ldo (vs:=[.string (ByteArray.mk #[98]),(.slice (some ⟨U,0,none⟩) 1 1),.int .i64 0,(.slice (some ⟨V,0,none⟩) 1 1),.slice none 0 0,.slice none 0 0,.slice none 0 0,.slice none 0 0,.slice none 0 0,(.slice (some ⟨W,0,none⟩) 3 3),.int .i64 0]) Af hsN O (mt (mt (mt (mt (mt mh))))) O O ET O O (AE (AC (An.refl _) ⟨O,(by decide),(iq (n:=0) O),(iq (n:=0) O)⟩)))
         refine AQ.cons O ?_ ?_
         ·
          intro mq hh o
          intro gp gq
          have hsN:=o.st c
          obtain rfl:gp= .bool true:=Eq.trans gq (congrArg Value.bool K)
          refine⟨87,O,.inl ⟨O,?_⟩⟩
          exact LF.q 1 (QF.ldo (vs:=[.int .i64 0,(.slice (some ⟨Z,0,none⟩) 1 1),.slice none 0 0,.slice none 0 0]) Af hsN O (mt (mt (mt (mt mh)))) O O FG O O (AE (AC (An.refl _) ⟨O,(iq (n:=0) O)⟩)))
         refine AQ.cons O ?_ ?_
         ·
          intro mq hh o
          intro gr gs
          have hsN:=o.st c
          obtain rfl:gr= .bool true:=Eq.trans gs (congrArg Value.bool K)
          refine⟨87,O,.inl ⟨O,?_⟩⟩
          exact LF.q 1 (QF.ldo (vs:=[.int .i64 A.Hour,ac,ad,ae,af,ag,ah]) Af hsN O mh O O I6 O O (AE (AC (An.refl _) ⟨O,a6⟩)))
         refine AQ.cons O ?_ ?_
         ·
          intro mq hh o
          intro yy gu yz gv y0 gw gx gz
          have hsN:=SN.st c o
          obtain⟨rfl,g0,g1,g2⟩:=gu
          obtain⟨rfl,g3⟩:=gv
          obtain⟨rfl,g4⟩:=gw
          obtain rfl:gx= .bool true:=Eq.trans gz (congrArg Value.bool K)
          refine⟨87,O,.inl ⟨O,?_⟩⟩
          have cm:=au.trans (Y.trans (C.trans (D.trans (F.trans (G.trans (u.trans (y.trans (z.trans (j.trans (g.trans (s.trans (k.trans (d.trans (SN.ext c.1 o))))))))))))))
          have g5:=av.mono' cm
          have cn:=Y.trans (C.trans (D.trans (F.trans (G.trans (u.trans (y.trans (z.trans (j.trans (g.trans (s.trans (k.trans (d.trans (SN.ext c.1 o)))))))))))))
          have g6:=aw.mono' cn
          have co:=C.trans (D.trans (F.trans (G.trans (u.trans (y.trans (z.trans (j.trans (g.trans (s.trans (k.trans (d.trans (SN.ext c.1 o))))))))))))
          have g7:=ax.mono' co
          have cp:=u.trans (y.trans (z.trans (j.trans (g.trans (s.trans (k.trans (d.trans (SN.ext c.1 o))))))))
          have g8:=ay.mono' cp
          have g9:=az.mono' (d.trans (SN.ext c.1 o))
          have ha:=a0.mono' (d.trans (SN.ext c.1 o))
          have hc:=a1.mono' (d.trans (SN.ext c.1 o))
          have hd:=a2.mono' (d.trans (SN.ext c.1 o))
          have he:=a3.mono' (d.trans (SN.ext c.1 o))
          have hg:=a4.mono' (d.trans (SN.ext c.1 o))
          refine LF.callb O O O Rp O hsN (IB (St.all _) (BG.mk (x:=(⟨(ByteArray.mk #[98]),([(ByteArray.mk #[97])]:List ByteArray),0,Cc,[],[],[],[],[],([0,0,0]:List Int),0⟩:AK)) g0 (g5.mono (λb hb=>hsN.1 b hb) (λ_ _=>rfl)) g1 (g6.mono (λb hb=>hsN.1 b hb) (λ_ _=>rfl)) (.inl ⟨O,O⟩) (.inl ⟨O,O⟩) (.inl ⟨O,O⟩) (.inl ⟨O,O⟩) (.inl ⟨O,O⟩) (g7.mono (λb hb=>hsN.1 b hb) (λ_ _=>rfl)) g2) (CE.mk (x:=(⟨0,([(⟨100,150⟩:AF)]:List AF),[],[]⟩:Al)) g3 (g8.mono (λb hb=>hsN.1 b hb) (λ_ _=>rfl)) (.inl ⟨O,O⟩) (.inl ⟨O,O⟩)) (EM.mk (x:=A) g4 (g9.mono (λb hb=>hsN.1 b hb) (λ_ _=>rfl)) (ha.mono (λb hb=>hsN.1 b hb) (λ_ _=>rfl)) (hc.mono (λb hb=>hsN.1 b hb) (λ_ _=>rfl)) (hd.mono (λb hb=>hsN.1 b hb) (λ_ _=>rfl)) (he.mono (λb hb=>hsN.1 b hb) (λ_ _=>rfl)) (hg.mono (λb hb=>hsN.1 b hb) (λ_ _=>rfl))) bb) λy1 y2 y3 w6 y4 b3 p=>?_
          obtain⟨rfl,w7⟩:=p
          exact AC ⟨b3.siz,λb hb=>b3.same b hb⟩ O
         refine AQ.cons O ?_ ?_
         ·
          intro mq hh o
          intro hi hj y5 hk
          have hsN:=o.st c
          obtain rfl:hi= .bool true:=Eq.trans hj (congrArg Value.bool K)
          cases hk
          exact LF.q 1 (QF.pick O O O (AE (AC (An.refl _) O)))
         refine AQ.cons O ?_ ?_
         ·
          intro mq hh o
          intro y6 hl
          have hsN:=o.st c
          cases hl
          exact LF.q 1 (QF.mv O O (AE (AC (An.refl _) O)))
         refine AQ.cons O ?_ ?_
         ·
          intro mq hh o
          intro hm hn
          have hsN:=o.st c
          obtain rfl:hm= .bool true:=Eq.trans hn (congrArg Value.bool Q)
          refine⟨93,O,.inl ⟨O,?_⟩⟩
          exact LF.q 1 (QF.ldo (vs:=[.string (ByteArray.mk #[98]),(.slice (some ⟨U,0,none⟩) 1 1),.int .i64 0,(.slice (some ⟨V,0,none⟩) 1 1),.slice none 0 0,.slice none 0 0,.slice none 0 0,.slice none 0 0,.slice none 0 0,(.slice (some ⟨W,0,none⟩) 3 3),.int .i64 0]) Af hsN O (mt (mt (mt (mt (mt mh))))) O O ET O O (AE (AC (An.refl _) ⟨O,(by decide),(iq (n:=0) O),(iq (n:=0) O)⟩)))
         refine AQ.cons O ?_ ?_
         ·
          intro mq hh o
          intro ho hp
          have hsN:=o.st c
          obtain rfl:ho= .bool true:=Eq.trans hp (congrArg Value.bool Q)
          refine⟨93,O,.inl ⟨O,?_⟩⟩
          exact LF.q 1 (QF.ldo (vs:=[.int .i64 A.Hour,ac,ad,ae,af,ag,ah]) Af hsN O mh O O I6 O O (AE (AC (An.refl _) ⟨O,a6⟩)))
         refine AQ.cons O ?_ ?_
         ·
          intro mq hh o
          intro y7 hq y8 ht hu hv
          have hsN:=SN.st c o
          obtain⟨rfl,hx,hy,hz⟩:=hq
          obtain⟨rfl,h0⟩:=ht
          obtain rfl:hu= .bool true:=Eq.trans hv (congrArg Value.bool Q)
          refine⟨93,O,.inl ⟨O,?_⟩⟩
          have hsF:=hsN.fz
          have cq:=au.trans (Y.trans (C.trans (D.trans (F.trans (G.trans (u.trans (y.trans (z.trans (j.trans (g.trans (s.trans (k.trans (d.trans (SN.ext c.1 o))))))))))))))
          have h3:=av.mono' cq
          have cr:=Y.trans (C.trans (D.trans (F.trans (G.trans (u.trans (y.trans (z.trans (j.trans (g.trans (s.trans (k.trans (d.trans (SN.ext c.1 o)))))))))))))
          have h4:=aw.mono' cr
          have ct:=C.trans (D.trans (F.trans (G.trans (u.trans (y.trans (z.trans (j.trans (g.trans (s.trans (k.trans (d.trans (SN.ext c.1 o))))))))))))
          have h5:=ax.mono' ct
          have h7:=az.mono' (d.trans (SN.ext c.1 o))
          have h8:=a0.mono' (d.trans (SN.ext c.1 o))
          have h9:=a1.mono' (d.trans (SN.ext c.1 o))
          have ia:=a2.mono' (d.trans (SN.ext c.1 o))
          have ib:=a3.mono' (d.trans (SN.ext c.1 o))
          have ic:=a4.mono' (d.trans (SN.ext c.1 o))
          refine LF.call O O O UY O (KO hsF (BG.mk (x:=(⟨(ByteArray.mk #[98]),([(ByteArray.mk #[97])]:List ByteArray),0,Cc,[],[],[],[],[],([0,0,0]:List Int),0⟩:AK)) hx h3 hy h4 (.inl ⟨O,O⟩) (.inl ⟨O,O⟩) (.inl ⟨O,O⟩) (.inl ⟨O,O⟩) (.inl ⟨O,O⟩) h5 hz) (EM.mk (x:=A) h0 h7 h8 h9 ia ib ic) bt) λy9 za zb ie p=>?_
          obtain⟨ig,cu⟩:=p
          have bj:=Fz.done o ie cu
          exact AC bj.1 (Rd.mono ig bj.2)
         refine AQ.cons O ?_ ?_
         ·
          intro mq hh o
          intro ih be ii ij
          have hsN:=SN.st c o
          have be:Rd _ _ CE ih bi:=be
          obtain rfl:ii= .bool true:=Eq.trans ij (congrArg Value.bool Q)
          refine⟨93,O,.inl ⟨O,?_⟩⟩
          refine LF.callb O O O OL O hsN (GC (St.all _) (be.mono ⟨λb hb=>hsN.1 b hb,λ_ _=>rfl,Nat.le_refl _⟩) bu) λzc zd ze w8 zf b4 p=>?_
          obtain⟨rfl,ik,w9⟩:=p
          exact AC ⟨b4.siz,λb hb=>b4.same b hb⟩ ⟨O,ik⟩
         refine AQ.cons O ?_ ?_
         ·
          intro mq hh o
          intro zg il im io
          have hsN:=o.st c
          obtain⟨rfl,zh⟩:=il
          obtain rfl:im= .bool true:=Eq.trans io (congrArg Value.bool Q)
          refine⟨93,O,.inl ⟨O,?_⟩⟩
          exact LF.q 1 (QF.eql O O O (AE (AC (An.refl _) O)))
         refine AQ.cons O ?_ ?_
         ·
          intro mq hh o
          intro ip ir zi it
          have hsN:=o.st c
          obtain rfl:ip= .bool true:=Eq.trans ir (congrArg Value.bool Q)
          cases it
          exact LF.q 1 (QF.pick O O O (AE (AC (An.refl _) O)))
         refine AQ.cons O ?_ ?_
         ·
          intro mq hh o
          intro zj iu
          have hsN:=o.st c
          cases iu
          exact LF.q 1 (QF.mv O O (AE (AC (An.refl _) O)))
         refine AQ.cons O ?_ ?_
         ·
          intro mq hh o
          intro iv iw
          have hsN:=o.st c
          obtain rfl:iv= .bool true:=Eq.trans iw (congrArg Value.bool ai)
          refine⟨100,O,.inl ⟨O,?_⟩⟩
          exact LF.q 1 (QF.ldo (vs:=[.string (ByteArray.mk #[98]),(.slice (some ⟨U,0,none⟩) 1 1),.int .i64 0,(.slice (some ⟨V,0,none⟩) 1 1),.slice none 0 0,.slice none 0 0,.slice none 0 0,.slice none 0 0,.slice none 0 0,(.slice (some ⟨W,0,none⟩) 3 3),.int .i64 0]) Af hsN O (mt (mt (mt (mt (mt mh))))) O O ET O O (AE (AC (An.refl _) ⟨O,(by decide),(iq (n:=0) O),(iq (n:=0) O)⟩)))
         refine AQ.cons O ?_ ?_
         ·
          intro mq hh o
          intro iy iz
          have hsN:=o.st c
          obtain rfl:iy= .bool true:=Eq.trans iz (congrArg Value.bool ai)
          refine⟨100,O,.inl ⟨O,?_⟩⟩
          exact LF.q 1 (QF.ldo (vs:=[.string (ByteArray.mk #[98]),(.slice (some ⟨U,0,none⟩) 1 1),.int .i64 0,(.slice (some ⟨V,0,none⟩) 1 1),.slice none 0 0,.slice none 0 0,.slice none 0 0,.slice none 0 0,.slice none 0 0,(.slice (some ⟨W,0,none⟩) 3 3),.int .i64 0]) Af hsN O (mt (mt (mt (mt (mt mh))))) O O ET O O (AE (AC (An.refl _) ⟨O,(by decide),(iq (n:=0) O),(iq (n:=0) O)⟩)))
         refine AQ.cons O ?_ ?_
         ·
          intro mq hh o
          intro i0 i1
          have hsN:=o.st c
          obtain rfl:i0= .bool true:=Eq.trans i1 (congrArg Value.bool ai)
          refine⟨100,O,.inl ⟨O,?_⟩⟩
          exact LF.q 1 (QF.ldo (vs:=[.int .i64 A.Hour,ac,ad,ae,af,ag,ah]) Af hsN O mh O O I6 O O (AE (AC (An.refl _) ⟨O,a6⟩)))
         refine AQ.cons O ?_ ?_
         ·
          intro mq hh o
          intro zk i2 zl i3 i4 i5
          have hsN:=SN.st c o
          obtain⟨rfl,i6,i7,i8⟩:=i2
          obtain⟨rfl,i9⟩:=i3
          obtain rfl:i4= .bool true:=Eq.trans i5 (congrArg Value.bool ai)
          refine⟨100,O,.inl ⟨O,?_⟩⟩
          have hsF:=hsN.fz
          have cv:=au.trans (Y.trans (C.trans (D.trans (F.trans (G.trans (u.trans (y.trans (z.trans (j.trans (g.trans (s.trans (k.trans (d.trans (SN.ext c.1 o))))))))))))))
          have ja:=av.mono' cv
          have cw:=Y.trans (C.trans (D.trans (F.trans (G.trans (u.trans (y.trans (z.trans (j.trans (g.trans (s.trans (k.trans (d.trans (SN.ext c.1 o)))))))))))))
          have jb:=aw.mono' cw
          have cx:=C.trans (D.trans (F.trans (G.trans (u.trans (y.trans (z.trans (j.trans (g.trans (s.trans (k.trans (d.trans (SN.ext c.1 o))))))))))))
          have jc:=ax.mono' cx
          have jd:=az.mono' (d.trans (SN.ext c.1 o))
          have je:=a0.mono' (d.trans (SN.ext c.1 o))
          have jf:=a1.mono' (d.trans (SN.ext c.1 o))
          have jg:=a2.mono' (d.trans (SN.ext c.1 o))
          have jh:=a3.mono' (d.trans (SN.ext c.1 o))
          have ji:=a4.mono' (d.trans (SN.ext c.1 o))
          refine LF.call O O O UY O (KO hsF (BG.mk (x:=(⟨(ByteArray.mk #[98]),([(ByteArray.mk #[97])]:List ByteArray),0,Cc,[],[],[],[],[],([0,0,0]:List Int),0⟩:AK)) i6 ja i7 jb (.inl ⟨O,O⟩) (.inl ⟨O,O⟩) (.inl ⟨O,O⟩) (.inl ⟨O,O⟩) (.inl ⟨O,O⟩) jc i8) (EM.mk (x:=A) i9 jd je jf jg jh ji) cf) λzm zn zo jj p=>?_
          obtain⟨jk,cy⟩:=p
          have bk:=Fz.done o jj cy
          exact AC bk.1 (Rd.mono jk bk.2)
         refine AQ.cons O ?_ ?_
         ·
          intro mq hh o
          intro jl jm
          have hsN:=o.st c
          obtain rfl:jl= .bool true:=Eq.trans jm (congrArg Value.bool ai)
          refine⟨100,O,.inl ⟨O,?_⟩⟩
          exact LF.q 1 (QF.ldo (vs:=[.int .i64 A.Hour,ac,ad,ae,af,ag,ah]) Af hsN O mh O O I6 O O (AE (AC (An.refl _) ⟨O,a6⟩)))
         refine AQ.cons O ?_ ?_
         ·
          intro mq hh o
          intro zp jn jo bf zq jp jq jr
          have hsN:=SN.st c o
          obtain⟨rfl,js,jt,ju⟩:=jn
          have bf:Rd _ _ CE jo bz:=bf
          obtain⟨rfl,jv⟩:=jp
          obtain rfl:jq= .bool true:=Eq.trans jr (congrArg Value.bool ai)
          refine⟨100,O,.inl ⟨O,?_⟩⟩
          have cz:=au.trans (Y.trans (C.trans (D.trans (F.trans (G.trans (u.trans (y.trans (z.trans (j.trans (g.trans (s.trans (k.trans (d.trans (SN.ext c.1 o))))))))))))))
          have jw:=av.mono' cz
          have c0:=Y.trans (C.trans (D.trans (F.trans (G.trans (u.trans (y.trans (z.trans (j.trans (g.trans (s.trans (k.trans (d.trans (SN.ext c.1 o)))))))))))))
          have jx:=aw.mono' c0
          have c1:=C.trans (D.trans (F.trans (G.trans (u.trans (y.trans (z.trans (j.trans (g.trans (s.trans (k.trans (d.trans (SN.ext c.1 o))))))))))))
          have jy:=ax.mono' c1
          have jz:=az.mono' (d.trans (SN.ext c.1 o))
          have j0:=a0.mono' (d.trans (SN.ext c.1 o))
          have j1:=a1.mono' (d.trans (SN.ext c.1 o))
          have j2:=a2.mono' (d.trans (SN.ext c.1 o))
          have j3:=a3.mono' (d.trans (SN.ext c.1 o))
          have j4:=a4.mono' (d.trans (SN.ext c.1 o))
          refine LF.callb O O O Rp O hsN (IB (St.all _) (BG.mk (x:=(⟨(ByteArray.mk #[98]),([(ByteArray.mk #[97])]:List ByteArray),0,Cc,[],[],[],[],[],([0,0,0]:List Int),0⟩:AK)) js (jw.mono (λb hb=>hsN.1 b hb) (λ_ _=>rfl)) jt (jx.mono (λb hb=>hsN.1 b hb) (λ_ _=>rfl)) (.inl ⟨O,O⟩) (.inl ⟨O,O⟩) (.inl ⟨O,O⟩) (.inl ⟨O,O⟩) (.inl ⟨O,O⟩) (jy.mono (λb hb=>hsN.1 b hb) (λ_ _=>rfl)) ju) (bf.mono ⟨λb hb=>hsN.1 b hb,λ_ _=>rfl,Nat.le_refl _⟩) (EM.mk (x:=A) jv (jz.mono (λb hb=>hsN.1 b hb) (λ_ _=>rfl)) (j0.mono (λb hb=>hsN.1 b hb) (λ_ _=>rfl)) (j1.mono (λb hb=>hsN.1 b hb) (λ_ _=>rfl)) (j2.mono (λb hb=>hsN.1 b hb) (λ_ _=>rfl)) (j3.mono (λb hb=>hsN.1 b hb) (λ_ _=>rfl)) (j4.mono (λb hb=>hsN.1 b hb) (λ_ _=>rfl))) cg) λzr zs zt xa zu b6 p=>?_
          obtain⟨rfl,xb⟩:=p
          exact AC ⟨b6.siz,λb hb=>b6.same b hb⟩ O
         refine AQ.cons O ?_ ?_
         ·
          intro mq hh o
          intro j5 j6 zv j7
          have hsN:=o.st c
          obtain rfl:j5= .bool true:=Eq.trans j6 (congrArg Value.bool ai)
          cases j7
          exact LF.q 1 (QF.pick O O O (AE (AC (An.refl _) O)))
         refine AQ.cons O ?_ ?_
         ·
          intro mq hh o
          intro zw j8
          have hsN:=o.st c
          cases j8
          exact LF.q 1 (QF.as_ O O (AE (AC (An.refl _) O)))
         exact trivial
        intro zx b7 zy j9
        have c2:=SN.st c b7
        cases j9
        exact LF.nil (kp [0] O) (WF.nil (λaa ww hf hw=>⟨_,_,hf.sub (kp [0] O),hw,c2,(SN.ext c.1 b7),trivial⟩))
  rintro aa ww ⟨zz,z0,hf,hw,c3,ka,_⟩
  refine WF.run ?_ hf hw
  clear hf hw ww aa
  refine WF.ret (λaa ww hf hw=>?_)
  have c4:=c3.sel [] 7 O
  cases E
  have c5:=e4.trans (e8.trans (kc.trans (dt.trans (b8.trans (b9.trans (ca.trans (cb.trans (cc.trans (cd.trans (au.trans (Y.trans (C.trans (D.trans (F.trans (G.trans (u.trans (y.trans (z.trans (j.trans (g.trans (s.trans (k.trans (d.trans ka)))))))))))))))))))))))
  exact DC hf hw O O c5 ⟨O,c4⟩
end Go.Proofs.YtibidnaedddfdaaGreat
