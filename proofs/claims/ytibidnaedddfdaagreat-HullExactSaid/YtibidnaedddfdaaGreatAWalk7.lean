import Derived.Test.YtibidnaedddfdaaGreatAWalk6
namespace Go.Proofs.YtibidnaedddfdaaGreat
open Go.RowKit
set_option linter.unusedVariables false
set_option linter.unusedSimpArgs false
set_option maxRecDepth 10000
set_option maxHeartbeats 2000000
variable {N:Nat}{S:Nat→Prop}{L:List HP}{h:Ad}
theorem Gr (hs:St S L h) {s:Value}{d:AJ}(aj:Rd S h A3 s d) {t:Value}{b:Aq}(ak:Rd S h Bj t b) {u:Value}{c:AV}(am:Rd S h CA u c) {r:Bool}(E:Gi N d b c=some r):
 BP Tryz.prog 26 #[s,t,u] S h (λv S' h'=>v= .bool r∧St S' (L) h'):=by
 refine Ac (l:=[s,t,u]) 103 Tryz.func26 O Tryz.ntmps26 O λB=>?_
 rw[Gi] at E
 refine WF.seq (WF.rl (LF.boxp O aj (λe=>by cases e) O hs λq1 S2 h3 cw e5 k6=>?_))
 have k7:=ak.mono e5
 refine LF.boxp O k7 (λe=>by cases e) O cw λq8 S9 eq bp C cx=>?_
 have cy:=am.mono (e5.trans C)
 refine LF.boxp O cy (λe=>by cases e) O bp λan ax ay i D K=>LF.q 1 (QF.as_ O O (AE (LF.nil (kp [5,4,3] O) (WF.seq (WF.seq (WF.rp (.inl O) ?_))))))
 have F:=cx.mono D
 refine QF.fa O F Aq.f_Hour Ia O λer cz=>QF.ldi Aa i.1 O cz AN O λes=>QF.fa O K AV.f_Hour Jm O λet c0=>QF.ldi Aa i.1 O c0 AN O λeu=>QF.neq O O O (QF.mv O O (QF.cutv 8 25 (.bool ((decide (b.Hour≠c.Hour))||(decide ((↑b.Vol.length:Int)≠(↑d.Places.length:Int))))) ?_ ?_))
 ·
  cases ev:(decide (b.Hour≠c.Hour))
  ·
   refine QF.gy O O O (QF.fa O F Aq.f_Vol GX O λew c1=>QF.gy O O O (QF.ldl Aa i.1 O c1 Fq O λey c2=>QF.gy O O O (QF.len O c2 EM O λez=>QF.gy O O O ?_)))
   have c3:=k6.mono (C.trans D)
   exact QF.fa O c3 Ah Bs O λe0 c4=>QF.gy O O O (QF.ldl Aa i.1 O c4 EY O λe1 c5=>QF.gy O O O (QF.len O c5 Dk O λe2=>QF.gy O O O (QF.neq O O O (QF.pick O O O (AH O)))))
  ·exact AL O O
 refine QF.mv O O (QF.cutv 8 34 (.bool (((decide (b.Hour≠c.Hour))||(decide ((↑b.Vol.length:Int)≠(↑d.Places.length:Int))))||(decide ((↑b.Links.length:Int)≠(↑d.Links.length:Int))))) ?_ ?_)
 ·
  cases e3:((decide (b.Hour≠c.Hour))||(decide ((↑b.Vol.length:Int)≠(↑d.Places.length:Int))))
  ·
   refine QF.gy O O O (QF.fa O F Aq.f_Links FV O λe4 c6=>QF.gy O O O (QF.ldl Aa i.1 O c6 H9 O λe6 c7=>QF.gy O O O (QF.len O c7 Il O λe7=>QF.gy O O O ?_)))
   have c8:=k6.mono (C.trans D)
   exact QF.fa O c8 AJ.f_Links EE O λe8 c9=>QF.gy O O O (QF.ldl Aa i.1 O c9 G7 O λe9 da=>QF.gy O O O (QF.len O da FT O λfb=>QF.gy O O O (QF.neq O O O (QF.pick O O O (AH O)))))
  ·exact AL O O
 refine QF.mv O O (QF.cutv 8 43 (.bool ((((decide (b.Hour≠c.Hour))||(decide ((↑b.Vol.length:Int)≠(↑d.Places.length:Int))))||(decide ((↑b.Links.length:Int)≠(↑d.Links.length:Int))))||(decide ((↑c.Own.length:Int)≠(↑b.Vol.length:Int))))) ?_ ?_)
 ·
  cases fc:(((decide (b.Hour≠c.Hour))||(decide ((↑b.Vol.length:Int)≠(↑d.Places.length:Int))))||(decide ((↑b.Links.length:Int)≠(↑d.Links.length:Int))))
  ·
   refine QF.gy O O O (QF.fa O K GE JB O λfd db=>QF.gy O O O (QF.ldl Aa i.1 O db Mt O λfe dc=>QF.gy O O O (QF.len O dc LY O λff=>QF.gy O O O (QF.fa O F Aq.f_Vol GX O λfg dd=>QF.gy O O O (QF.ldl Aa i.1 O dd Fq O λfh de=>QF.gy O O O (QF.len O de EM O λfi=>QF.gy O O O (QF.neq O O O ?_)))))))
   exact QF.pick O O O (AH O)
  ·exact AL O O
 refine QF.mv O O (QF.cutv 8 52 (.bool (((((decide (b.Hour≠c.Hour))||(decide ((↑b.Vol.length:Int)≠(↑d.Places.length:Int))))||(decide ((↑b.Links.length:Int)≠(↑d.Links.length:Int))))||(decide ((↑c.Own.length:Int)≠(↑b.Vol.length:Int))))||(decide ((↑c.Gates.length:Int)≠(↑b.Links.length:Int))))) ?_ ?_)
 ·
  cases fj:((((decide (b.Hour≠c.Hour))||(decide ((↑b.Vol.length:Int)≠(↑d.Places.length:Int))))||(decide ((↑b.Links.length:Int)≠(↑d.Links.length:Int))))||(decide ((↑c.Own.length:Int)≠(↑b.Vol.length:Int))))
  ·
   refine QF.gy O O O (QF.fa O K Du IY O λfk df=>QF.gy O O O (QF.ldl Aa i.1 O df Ly O λfl dg=>QF.gy O O O (QF.len O dg LX O λfm=>QF.gy O O O (QF.fa O F Aq.f_Links FV O λfn dh=>QF.gy O O O (QF.ldl Aa i.1 O dh H9 O λfo di=>QF.gy O O O (QF.len O di Il O λfp=>QF.gy O O O (QF.neq O O O ?_)))))))
   exact QF.pick O O O (AH O)
  ·exact AL O O
 refine AA (kp [52,5,4] O) (WF.if_ O (λaz=>?_) (λaz=>?_))
 ·
  have E:=Av az E
  refine WF.seq (WF.rp (.inl O) (QF.as_ O O (AA (kp [6] O) (WF.ret (λaa ww hf hw=>?_)))))
  cases E
  have bq:=e5.trans (C.trans D)
  exact CS hf hw O O bq ⟨O,i⟩
 ·
  have E:=Aw az E
  refine WF.skip (WF.seq (WF.seq (WF.rp (.inl O) (QF.fa O F Aq.f_Vol GX O λfq dj=>QF.ldl Aa i.1 O dj Fq O λdk br=>QF.len O br EM O λfr=>QF.mv O O (AA (kp [56,55,54,5,4] O) (WF.blockJ (λa w=>IV B ax ay (103,[]) a w [(5,an),(4,q8)] (L) λ_ _=>EJ N b c=some r) ?_ ?_))))))
  ·
   refine WF.loopF (λn1=>λa w=>∃(M:Int),IV B ax ay (103,[]) a w [(55,.int .i64 (↑b.Vol.length:Int)),(54,dk),(5,an),(4,q8),(56,.int .i64 M)] (L) λ_ _=>AB M∧EH N b c (EJ N b c) n1 M=some r) N ?_ ?_ ?_
   ·
    intro aa ww hf hw
    exact⟨0,_,_,hf.sub (kp [55,54,5,4,56] O),hw,i,(BO.refl ax ay),(iq (n:=0) O),E⟩
   ·
    rintro aa ww ⟨_,_,_,_,_,_,_,_,E⟩
    rw[EH] at E;cases E
   ·
    rintro n1 aa ww ⟨M,fs,ft,hf,hw,Q,U,fu,E⟩
    refine WF.run ?_ hf hw
    clear hf hw ww aa
    rw[EH] at E
    refine WF.seq (WF.rp (.inl O) (QF.lss O O O (AA (kp [57,55,54,5,4,56] O) (WF.seq (WF.if_ O (λa0=>?_) (λa0=>?_))))))
    ·
     have E:=Av a0 E
     refine WF.skip (WF.seq (WF.block (WF.seq (WF.rl (LF.q 3 (QF.mv O O ?_))))))
     have dl:=br.mono' U
     obtain⟨V,bt,E⟩:=bd E
     refine QF.ixe O O dl EM bt O λfv dm=>QF.ld Aa Q.1 O dm Ag (λe=>by cases e) O λfw dn=>AE (LF.al EL O Q λfx fy bu ao=>LF.q 1 (QF.as_ O O (AE ?_)))
     have bv:=dn.mono ao
     obtain⟨rfl,⟨bw,bx⟩⟩:=AK.ex bv
     refine Aj (vs:=[.int .i64 V.Lo,.int .i64 V.Hi]) O O O O Ag O bu .head O λdp k W=>LF.nil (kp [7,8,55,54,5,4,56] O) (WF.seq (WF.rc (.inr ⟨mo,by kernel_rfl⟩) k (QF.ldo (vs:=[.int .i64 V.Lo,.int .i64 V.Hi]) Ak k O mh O O Ag O O ?_)))
     have a1:=U.trans (ao.trans W)
     have bz:=K.mono a1
     refine QF.fa O bz GE JB O λdq b0=>QF.ldl Ak k.1 O b0 Mt O λdr b1=>QF.mv O O ?_
     obtain⟨ds,a2,E⟩:=bd E
     refine QF.ixe O O b1 LY a2 O λdt b2=>QF.ldl Ak k.1 O b2 GV O λdu b3=>?_
     obtain⟨dv,a3,E⟩:=bd E
     refine Af O O O MQ O (λh' o=>Dn (St.all h') (b3.mono' (o.all k.1)) a3) λb4=>?_
     have b5:=b4
     obtain⟨dw,a4,E⟩:=bd E
     refine AZ O O O Nu O (λh' o=>F9 (St.all h') (AK.mk (x:=V) ⟨bw,bx⟩) b5 a4) (QF.not O O (Ai (kp [69,55,54,5,4,56] O) λdx X ap=>WF.if_ O (λY=>?_) (λY=>?_)))
     ·
      have E:=Av Y E
      refine WF.seq (WF.rp (.inl O) (QF.as_ O O (AA (kp [6] O) (WF.ret (λaa ww hf hw=>?_)))))
      have a5:=X.drop .head
      cases E
      have a6:=e5.trans (C.trans (D.trans (U.trans (ao.trans (W.trans ap)))))
      exact CS hf hw O O a6 ⟨O,a5⟩
     ·
      have E:=Aw Y E
      refine WF.skip (Al (WF.rp (.inl O) (QF.addw O O O (QF.mv O O (AA (kp [56,55,54,5,4] O) (WF.nil (λaa ww hf hw=>?_)))))))
      have a7:=X.drop .head
      have a8:=U.trans (ao.trans (W.trans ap))
      exact⟨(Ar (M+1)),_,_,hf.sub (kp [55,54,5,4,56] O),hw,a7,a8,(Au _),E⟩
    ·
     have E:=Aw a0 E
     refine WF.exit O (λaa ww hf hw=>?_)
     exact⟨_,_,hf.sub (kp [5,4] O),hw,Q,U,E⟩
  ·
   rintro aa ww ⟨Z,ab,hf,hw,ac,y,E⟩
   refine WF.run ?_ hf hw
   clear hf hw ww aa
   rw[EJ] at E
   refine WF.seq (WF.seq (WF.rp (.inl O) ?_))
   have aq:=F.mono y
   refine QF.fa O aq Aq.f_Links FV O λdy b6=>QF.ldl Aa ac.1 O b6 H9 O λb7 ar=>QF.len O ar Il O λdz=>QF.mv O O (AA (kp [74,73,72,5,4] O) (WF.blockJ (λa w=>IV B Z ab (103,[]) a w [(5,an),(4,q8)] (L) λ_ _=>EI N b c=some r) ?_ ?_))
   ·
    refine WF.loopF (λn3=>λa w=>∃(z:Int),IV B Z ab (103,[]) a w [(73,.int .i64 (↑b.Links.length:Int)),(72,b7),(5,an),(4,q8),(74,.int .i64 z)] (L) λ_ _=>AB z∧EG N b c (EI N b c) n3 z=some r) N ?_ ?_ ?_
    ·
     intro aa ww hf hw
     exact⟨0,_,_,hf.sub (kp [73,72,5,4,74] O),hw,ac,(BO.refl Z ab),(iq (n:=0) O),E⟩
    ·
     rintro aa ww ⟨_,_,_,_,_,_,_,_,E⟩
     rw[EG] at E;cases E
    ·
     rintro n3 aa ww ⟨z,d0,d1,hf,hw,G,A,d2,E⟩
     refine WF.run ?_ hf hw
     clear hf hw ww aa
     rw[EG] at E
     refine WF.seq (WF.rp (.inl O) (QF.lss O O O (AA (kp [75,73,72,5,4,74] O) (WF.seq (WF.if_ O (λad=>?_) (λad=>?_))))))
     ·
      have E:=Av ad E
      refine WF.skip (WF.seq (WF.block (WF.seq (WF.rl (LF.q 3 (QF.mv O O ?_))))))
      have b8:=ar.mono' A
      obtain⟨j,a9,E⟩:=bd E
      refine QF.ixe O O b8 Il a9 O λd3 b9=>QF.ld Aa G.1 O b9 GT (λe=>by cases e) O λd4 ca=>AE (LF.al PN O G λd5 d6 ba I=>LF.q 1 (QF.as_ O O (AE ?_)))
      have cb:=ca.mono I
      obtain⟨rfl,⟨cc,cd,d7,ce,cf⟩⟩:=Ab.ex cb
      refine Aj (vs:=[.int .i64 j.Pos.Lo,.int .i64 j.Pos.Hi,.int .i64 j.Target,.int .i64 j.Open.Lo,.int .i64 j.Open.Hi]) O O O O GT O ba .head O λd8 H ae=>LF.nil (kp [9,10,73,72,5,4,74] O) (WF.seq (WF.rl (LF.q 5 ?_)))
      have bb:=y.trans (A.trans (I.trans ae))
      have cg:=K.mono bb
      refine QF.fa O cg Du IY O λd9 ch=>QF.ldl Aa H.1 O ch Ly O λea ci=>QF.mv O O ?_
      obtain⟨J,bc,E⟩:=bd E
      refine QF.ixe O O ci LX bc O λeb cj=>QF.ld Aa H.1 O cj G5 (λe=>by cases e) O λec ck=>AE (LF.al OB O H λed ee be af=>?_)
      have cl:=ck.mono af
      obtain⟨rfl,⟨cm,ef⟩⟩:=DE.ex cl
      refine Aj (vs:=[.int .i64 J.Pos,.int .i64 J.Target,.bool J.Stuck,.bool J.Open]) O O O O G5 O be .head O λeg m au=>LF.nil (kp [11,10,73,72,5,4,74] O) (WF.seq (WF.rc (.inr ⟨mo,by kernel_rfl⟩) m (QF.fao O He O (QF.ldo (vs:=[.int .i64 j.Pos.Lo,.int .i64 j.Pos.Hi]) Ak m O (mt mh) O O Ag O O (QF.fao O IX O (AI Ak m O mh O AN O ?_))))))
      obtain⟨cn,bf,E⟩:=bd E
      refine AZ O O O Nu O (λh' o=>F9 (St.all h') (AK.mk (x:=j.Pos) ⟨cc,cd⟩) cm bf) (QF.not O O (QF.mv O O ?_))
      obtain⟨co,g,E⟩:=bd E
      refine QF.cutv 8 98 (.bool co) ?_ ?_
      ·
       cases av:(!cn)
       ·
        have g:=Aw av g
        refine QF.gy O O O (QF.fao O Hd O (QF.gy O O O (QF.ldo (vs:=[.int .i64 j.Open.Lo,.int .i64 j.Open.Hi]) Ak m O (mt mh) O O Ag O O (QF.gy O O O (QF.fao O Jl O (QF.gy O O O (AI Ak m O mh O Kd O (QF.gy O O O ?_))))))))
        obtain⟨eh,bg,g⟩:=bd g
        refine Af O O O VJ O (λh' o=>MC (St.all h') bg) λcp=>?_
        have cq:=cp
        refine QF.gy O O O ?_
        obtain⟨ei,bh,g⟩:=bd g
        refine AZ O O O Nu O (λh' o=>F9 (St.all h') (AK.mk (x:=j.Open) ⟨ce,cf⟩) cq bh) (QF.gy O O O (QF.not O O (QF.pick O O O ?_)))
        cases g
        exact AH O
       ·
        have g:=Av av g
        cases g
        exact AL O O
      refine Ai (kp [98,73,72,5,4,74] O) λej ag aw=>WF.if_ O (λah=>?_) (λah=>?_)
      ·
       have E:=Av ah E
       refine WF.seq (WF.rp (.inl O) (QF.as_ O O (AA (kp [6] O) (WF.ret (λaa ww hf hw=>?_)))))
       have bi:=ag.sel [] 2 O
       cases E
       have bj:=e5.trans (C.trans (D.trans (y.trans (A.trans (I.trans (ae.trans (af.trans (au.trans aw))))))))
       exact CS hf hw O O bj ⟨O,bi⟩
      ·
       have E:=Aw ah E
       refine WF.skip (Al (WF.rp (.inl O) (QF.addw O O O (QF.mv O O (AA (kp [74,73,72,5,4] O) (WF.nil (λaa ww hf hw=>?_)))))))
       have bk:=ag.sel [] 2 O
       have bl:=A.trans (I.trans (ae.trans (af.trans (au.trans aw))))
       exact⟨(Ar (z+1)),_,_,hf.sub (kp [73,72,5,4,74] O),hw,bk,bl,(Au _),E⟩
     ·
      have E:=Aw ad E
      refine WF.exit O (λaa ww hf hw=>?_)
      exact⟨_,_,hf.sub (kp [5,4] O),hw,G,A,E⟩
   ·
    rintro aa ww ⟨ek,el,hf,hw,p,ai,E⟩
    refine WF.run ?_ hf hw
    clear hf hw ww aa
    rw[EI] at E
    refine WF.seq (WF.rc (.inl O) p ?_)
    have cr:=aq.mono ai
    refine QF.ld Ak p.1 O cr Zx (λe=>by cases e) O λem cs=>?_
    have ct:=K.mono (y.trans ai)
    refine QF.ld Ak p.1 O ct G6 (λe=>by cases e) O λen cu=>?_
    obtain⟨eo,bm,E⟩:=bd E
    refine AZ O O O X1 O (λh' o=>MB (St.all h') (cs.mono (o.all p.1)) (cu.mono (o.all p.1)) bm) (QF.as_ O O (Ai (kp [6] O) λep bn cv=>WF.ret (λaa ww hf hw=>?_)))
    cases E
    have bo:=e5.trans (C.trans (D.trans (y.trans (ai.trans cv))))
    exact CS hf hw O O bo ⟨O,bn⟩
theorem I8 (hs:St S L h) {Q:Value}{bh:AJ}(bf:Rd S h A3 Q bh) {U:Value}{c:AV}(bg:Rd S h CA U c) {r:Aq}(E:H1 N bh c=some r):
 BP Tryz.prog 24 #[Q,U] S h (λv S' h'=>Rd S' h' Bj v r∧St S' (L) h'):=by
 refine Ac (l:=[Q,U]) 75 Tryz.func24 O Tryz.ntmps24 O λB=>?_
 rw[H1] at E
 refine WF.seq (WF.rl (LF.boxp O bf (λe=>by cases e) O hs λq1 S2 h3 gp e5 k6=>?_))
 have k7:=bg.mono e5
 refine LF.boxp O k7 (λe=>by cases e) O gp λq8 S9 ki dh gq gr=>LF.al OC O dh λC kj bi di=>LF.nil (kp [4,3] O) (WF.seq (WF.rl (LF.q 3 ?_)))
 have dj:=gr.mono di
 refine QF.fa O dj AV.f_Hour Jm O λkk gs=>QF.ldi Aa bi.1 O gs AN O λgu=>QF.bld (cs:=[.int .i64 c.Hour,.slice none 0 0,.slice none 0 0,.slice none 0 0]) SS O O O (AE (LF.al OC O bi λu kl dk dl=>Aj (vs:=[.int .i64 c.Hour,.slice none 0 0,.slice none 0 0,.slice none 0 0]) O O O O Zx O dk .head O λca bj dm=>LF.nil (kp [5,4,3] O) (WF.seq (WF.seq (WF.rp (.inl O) ?_)))))
 have dn:=dj.mono (dl.trans dm)
 refine QF.fa O dn GE JB O λkm gv=>QF.ldl Aa bj.1 O gv Mt O λdp dq=>QF.len O dq LY O λkn=>QF.mv O O (AA (kp [18,17,16,5,4,3] O) (WF.blockJ (λa w=>∃(z:Value) (H:List AF),IV B S9 ca (75,[]) a w [(5,.pointer (some ⟨u,0,none⟩)),(4,.pointer (some ⟨C,0,none⟩)),(3,q8)] (OS AK 51 z H::Bx u 36 [.int .i64 c.Hour,z,.slice none 0 0,.slice none 0 0]::Bx C 36 [.int .i64 0,.slice none 0 0,.slice none 0 0,.slice none 0 0]::L) λ_ _=>Ex N c H=some r) ?_ ?_))
 ·
  refine WF.loopF (λn1=>λa w=>∃(aq:Int) (ar:Value) (V:List AF),IV B S9 ca (75,[]) a w [(17,.int .i64 (↑c.Own.length:Int)),(16,dp),(5,.pointer (some ⟨u,0,none⟩)),(4,.pointer (some ⟨C,0,none⟩)),(3,q8),(18,.int .i64 aq)] (OS AK 51 ar V::Bx u 36 [.int .i64 c.Hour,ar,.slice none 0 0,.slice none 0 0]::Bx C 36 [.int .i64 0,.slice none 0 0,.slice none 0 0,.slice none 0 0]::L) λ_ _=>AB aq∧Ev N c (Ex N c) n1 aq V=some r) N ?_ ?_ ?_
  ·
   intro aa ww hf hw
   have dr:=bj.nil AK 51
   exact⟨0,(.slice none 0 0),([]),_,_,hf.sub (kp [17,16,5,4,3,18] O),hw,dr,(BO.refl S9 ca),(iq (n:=0) O),E⟩
  ·
   rintro aa ww ⟨_,_,_,_,_,_,_,_,_,_,E⟩
   rw[Ev] at E;cases E
  ·
   rintro n1 aa ww ⟨aq,ar,V,cb,ds,hf,hw,t,cc,ko,E⟩
   refine WF.run ?_ hf hw
   clear hf hw ww aa
   rw[Ev] at E
   refine WF.seq (WF.rp (.inl O) (QF.lss O O O (AA (kp [19,17,16,5,4,3,18] O) (WF.seq (WF.if_ O (λcd=>?_) (λcd=>?_))))))
   ·
    have E:=Av cd E
    refine WF.skip (WF.seq (WF.block (WF.seq (WF.rp (.inl O) ?_))))
    have gw:=dq.mono' cc
    obtain⟨dt,du,E⟩:=bd E
    refine QF.ixe O O gw LY du O λkq gx=>QF.ldl Aa t.1 O gx GV O λgz g0=>QF.as_ O O (AA (kp [7,17,16,5,4,3,18] O) ?_)
    obtain⟨dv,dw,E⟩:=bd E
    obtain⟨F,dx,E⟩:=bd E
    refine Iy (m:=[(7,gz),(17,.int .i64 (↑c.Own.length:Int)),(16,dp),(5,.pointer (some ⟨u,0,none⟩)),(4,.pointer (some ⟨C,0,none⟩)),(3,q8),(18,.int .i64 aq)]) 6 (λi v hh=>match i with|0=>v= .pointer (some ⟨u,1,none⟩)|1=>v=ar|2=>Sl cb hh AW.int v dt|3=>v= .int .i64 dv∧AB dv|4=>v= .agg #[.int .i64 F.Lo,.int .i64 F.Hi]∧AB F.Lo∧AB F.Hi|5=>Sl (SN cb ds hh) hh AK v ([F]:List AF)∧∃ad,v= .slice (some ad) 1 1|_=>False) [[],[(0,22)],[],[(2,24)],[(3,25)],[(4,26)]] [(1,23),(5,27)] mo (by kernel_rfl) [7,17,16,5,4,3,18] O (by kernel_rfl) (by kernel_rfl) (by kernel_rfl) (kp [7,17,16,5,4,3,18] O) (λi v h1 h2 o1 o2 hr=>?_) ?_ ?_
    ·match i,hr with
      |0,hr=>exact hr
      |1,hr=>exact hr
      |2,hr=>exact Sl.mono' hr (o2.ext λb hb=>Nat.lt_of_lt_of_le (t.1 b hb) o1.siz)
      |3,hr=>exact hr
      |4,hr=>exact hr
      |5,hr=>exact⟨Sl.mono' hr.1 (SN.mono t.1 o1 o2),hr.2⟩
      |_+6,hr=>exact hr.elim
    ·
     refine AQ.cons O ?_ ?_
     ·
      intro mq hh o
      have hsN:=o.st t
      exact LF.q 1 (QF.fao O GX O (AE (AD (Ap.refl _) O)))
     refine AQ.cons O ?_ ?_
     ·
      intro mq hh o
      intro kr g1
      have hsN:=o.st t
      cases g1
      exact LF.q 1 (AI Aa hsN O (mt mh) O Fq O (AE (AD (Ap.refl _) O)))
     refine AQ.cons O ?_ ?_
     ·
      intro mq hh o
      have hsN:=o.st t
      refine LF.q 1 (QF.mv O O (AE ?_))
      have g2:=g0.mono' (o.ext t.1)
      exact AD (Ap.refl _) g2
     refine AQ.cons O ?_ ?_
     ·
      intro mq hh o
      intro g3 au
      have hsN:=SN.st t o
      have au:=Sl.mono' (S':=(SN cb ds hh)) au ⟨λb hb=> .inl hb,λ_ _=>rfl,Nat.le_refl _⟩
      have au:Sl _ _ AW.int g3 dt:=au
      refine LF.callb O O O MQ O hsN (Dn (St.all _) (au.mono (λb hb=>hsN.1 b hb) (λ_ _=>rfl)) dw) λks kt ku hp kv dy p=>?_
      obtain⟨rfl,g4,hq⟩:=p
      exact AD ⟨dy.siz,λb hb=>dy.same b hb⟩ ⟨O,g4⟩
     refine AQ.cons O ?_ ?_
     ·
      intro mq hh o
      intro kw g5
      have hsN:=SN.st t o
      obtain⟨rfl,g6⟩:=g5
      refine LF.callb O O O JF O hsN (C5 (St.all _) g6 dx) λkx ky kz ht k0 dz p=>?_
      obtain⟨rfl,⟨g7,g8⟩,hu⟩:=p
      exact AD ⟨dz.siz,λb hb=>dz.same b hb⟩ ⟨O,g7,g8⟩
     refine AQ.cons O ?_ ?_
     ·
      intro mq hh o
      intro k1 g9
      have hsN:=SN.st t o
      obtain⟨rfl,d0,d1⟩:=g9
      have hsF:=hsN.fz
      refine Gn (cs:=[.int .i64 F.Lo,.int .i64 F.Hi]) Nm O O O O O O O hsF λhv hx ce d2=>?_
      have cf:=ce.bxos (r:=AK) (l:=([F]:List AF)) .head ⟨_,_,O,⟨O,⟨d0,d1⟩⟩,O⟩ (by simp [maxLen])
      obtain⟨hy,cg,d3,d4⟩:=cf.pubs .head
      have av:=Fz.done o (d2.trans d3) cg
      exact AD av.1 ⟨Sl.mono' d4 av.2,_,O⟩
     exact trivial
    intro hz bk h0 d5 h4 aw
    have ch:=SN.st t bk
    cases d5
    obtain⟨aw,ha,rfl⟩:=aw
    obtain⟨ci,E⟩:=O4 E
    refine LN (r:=AK) (l:=V) (xs:=([F]:List AF)) O O Nm O (Sl.src aw) O ci O ch (λ_=> .head) λh5 h6 ax d6=>LF.q 1 (QF.fao O GX O (AE ?_))
    obtain⟨af,W,rfl,h7⟩:=ax.oslen mh
    refine HT (vs:=[(.slice af (V++([F]:List AF)).length W)]) (cs':=[.int .i64 c.Hour,(.slice af (V++([F]:List AF)).length W),.slice none 0 0,.slice none 0 0]) O O O O Fq O ax (.tail .head) O O λh8 cj d7=>LF.nil (kp [17,16,5,4,3,18] O) (Al (WF.rp (.inl O) (QF.addw O O O (QF.mv O O (AA (kp [18,17,16,5,4,3] O) (WF.nil (λaa ww hf hw=>?_)))))))
    have ck:=cc.trans ((SN.ext t.1 bk).trans (d6.trans d7))
    exact⟨(Ar (aq+1)),(.slice af (V++([F]:List AF)).length W),(V++([F]:List AF)),_,_,hf.sub (kp [17,16,5,4,3,18] O),hw,cj,ck,(Au _),E⟩
   ·
    have E:=Aw cd E
    refine WF.exit O (λaa ww hf hw=>?_)
    exact⟨ar,V,_,_,hf.sub (kp [5,4,3] O),hw,t,cc,E⟩
 ·
  rintro aa ww ⟨z,H,ay,az,hf,hw,a0,bl,E⟩
  refine WF.run ?_ hf hw
  clear hf hw ww aa
  rw[Ex] at E
  refine WF.seq (WF.seq (WF.rp (.inl O) ?_))
  have bm:=dn.mono bl
  refine QF.fa O bm AV.f_Queue GA O λh9 d8=>QF.ldl Aa a0.1 O d8 Ik O λbn bo=>QF.len O bo Hp O λia=>QF.mv O O (AA (kp [34,33,32,5,4,3] O) (WF.blockJ (λa w=>∃(y:Value) (G:List Ay),IV B ay az (75,[]) a w [(5,.pointer (some ⟨u,0,none⟩)),(4,.pointer (some ⟨C,0,none⟩)),(3,q8)] (OS BE 93 y G::OS AK 51 z H::Bx u 36 [.int .i64 c.Hour,z,y,.slice none 0 0]::Bx C 36 [.int .i64 0,.slice none 0 0,.slice none 0 0,.slice none 0 0]::L) λ_ _=>Ew N c H G=some r) ?_ ?_))
  ·
   refine WF.loopF (λn3=>λa w=>∃(J:Int) (Z:Value) (ak:List Ay),IV B ay az (75,[]) a w [(33,.int .i64 (↑c.Queue.length:Int)),(32,bn),(5,.pointer (some ⟨u,0,none⟩)),(4,.pointer (some ⟨C,0,none⟩)),(3,q8),(34,.int .i64 J)] (OS BE 93 Z ak::OS AK 51 z H::Bx u 36 [.int .i64 c.Hour,z,Z,.slice none 0 0]::Bx C 36 [.int .i64 0,.slice none 0 0,.slice none 0 0,.slice none 0 0]::L) λ_ _=>AB J∧Eu N c (Ew N c H) n3 J ak=some r) N ?_ ?_ ?_
   ·
    intro aa ww hf hw
    have cl:=a0.nil BE 93
    exact⟨0,(.slice none 0 0),([]),_,_,hf.sub (kp [33,32,5,4,3,34] O),hw,cl,(BO.refl ay az),(iq (n:=0) O),E⟩
   ·
    rintro aa ww ⟨_,_,_,_,_,_,_,_,_,_,E⟩
    rw[Eu] at E;cases E
   ·
    rintro n3 aa ww ⟨J,Z,ak,bp,ib,hf,hw,ag,a1,ic,E⟩
    refine WF.run ?_ hf hw
    clear hf hw ww aa
    rw[Eu] at E
    refine WF.seq (WF.rp (.inl O) (QF.lss O O O (AA (kp [35,33,32,5,4,3,34] O) (WF.seq (WF.if_ O (λa2=>?_) (λa2=>?_))))))
    ·
     have E:=Av a2 E
     refine WF.skip (WF.seq (WF.block (WF.seq (WF.rl (LF.q 2 ?_)))))
     have d9:=bo.mono' a1
     obtain⟨A,cm,E⟩:=bd E
     refine QF.ixe O O d9 Hp cm O λid ea=>QF.ld Aa ag.1 O ea Kc (λe=>by cases e) O λie eb=>AE (LF.al Qi O ag λam ig cn bq=>?_)
     have ec:=eb.mono bq
     obtain⟨br,rfl,ed,ee,bt⟩:=GD.ex ec
     refine LF.st (vs:=[.int .i64 A.At,.int .i64 A.To,br]) (cs':=[.int .i64 A.At,.int .i64 A.To,br]) O O O (AC O (AC O (AC bt.one C6))) Kc O cn .head O O λef j bu=>LF.nil (kp [9,33,32,5,4,3,34] O) ?_
     obtain⟨bv,co,E⟩:=bd E
     obtain⟨ab,cp,E⟩:=bd E
     refine Iy (m:=[(9,.pointer (some ⟨am,0,none⟩)),(33,.int .i64 (↑c.Queue.length:Int)),(32,bn),(5,.pointer (some ⟨u,0,none⟩)),(4,.pointer (some ⟨C,0,none⟩)),(3,q8),(34,.int .i64 J)]) 10 (λi v hh=>match i with|0=>v= .pointer (some ⟨u,2,none⟩)|1=>v=Z|2=>v= .pointer (some ⟨am,0,none⟩)|3=>v= .int .i64 A.At∧AB A.At|4=>v= .pointer (some ⟨am,1,none⟩)|5=>v= .int .i64 A.To∧AB A.To|6=>v= .pointer (some ⟨am,2,none⟩)|7=>Sl bp hh AW.int v A.Part|8=>v= .int .i64 bv∧AB bv|9=>v= .agg #[.int .i64 ab.Lo,.int .i64 ab.Hi]∧AB ab.Lo∧AB ab.Hi|_=>False) [[],[(0,38)],[],[(2,40)],[],[(4,42)],[],[(6,44)],[(7,45)],[(8,46)]] [(1,39),(3,41),(5,43),(9,47)] mo (by kernel_rfl) [9,33,32,5,4,3,34] O (by kernel_rfl) (by kernel_rfl) (by kernel_rfl) (kp [9,33,32,5,4,3,34] O) (λi v h1 h2 o1 o2 hr=>?_) ?_ ?_
     ·match i,hr with
       |0,hr=>exact hr
       |1,hr=>exact hr
       |2,hr=>exact hr
       |3,hr=>exact hr
       |4,hr=>exact hr
       |5,hr=>exact hr
       |6,hr=>exact hr
       |7,hr=>exact Sl.mono' hr (o2.ext λb hb=>Nat.lt_of_lt_of_le (j.1 b hb) o1.siz)
       |8,hr=>exact hr
       |9,hr=>exact hr
       |_+10,hr=>exact hr.elim
     ·
      refine AQ.cons O ?_ ?_
      ·
       intro mq hh o
       have hsN:=o.st j
       exact LF.q 1 (QF.fao O HG O (AE (AD (Ap.refl _) O)))
      refine AQ.cons O ?_ ?_
      ·
       intro mq hh o
       intro ih eg
       have hsN:=o.st j
       cases eg
       exact LF.q 1 (AI Aa hsN O (mt (mt (mt mh))) O J4 O (AE (AD (Ap.refl _) O)))
      refine AQ.cons O ?_ ?_
      ·
       intro mq hh o
       have hsN:=o.st j
       exact LF.q 1 (QF.fao O LG O (AE (AD (Ap.refl _) O)))
      refine AQ.cons O ?_ ?_
      ·
       intro mq hh o
       intro ii eh
       have hsN:=o.st j
       cases eh
       exact LF.q 1 (AI Aa hsN O mh O AN O (AE (AD (Ap.refl _) ⟨O,ed⟩)))
      refine AQ.cons O ?_ ?_
      ·
       intro mq hh o
       have hsN:=o.st j
       exact LF.q 1 (QF.fao O LE O (AE (AD (Ap.refl _) O)))
      refine AQ.cons O ?_ ?_
      ·
       intro mq hh o
       intro ij ei
       have hsN:=o.st j
       cases ei
       exact LF.q 1 (AI Aa hsN O mh O AN O (AE (AD (Ap.refl _) ⟨O,ee⟩)))
      refine AQ.cons O ?_ ?_
      ·
       intro mq hh o
       have hsN:=o.st j
       exact LF.q 1 (QF.fao O MF O (AE (AD (Ap.refl _) O)))
      refine AQ.cons O ?_ ?_
      ·
       intro mq hh o
       intro ik ej
       have hsN:=o.st j
       cases ej
       refine LF.q 1 (AI Aa hsN O mh O GV O (AE ?_))
       have ek:=bt.mono' (bu.trans (o.ext j.1))
       exact AD (Ap.refl _) ek
      refine AQ.cons O ?_ ?_
      ·
       intro mq hh o
       intro el ac
       have hsN:=SN.st j o
       have ac:=Sl.mono' (S':=(SN bp ef hh)) ac ⟨λb hb=> .inl hb,λ_ _=>rfl,Nat.le_refl _⟩
       have ac:Sl _ _ AW.int el A.Part:=ac
       refine LF.callb O O O MQ O hsN (Dn (St.all _) (ac.mono (λb hb=>hsN.1 b hb) (λ_ _=>rfl)) co) λil im io hc ip bw p=>?_
       obtain⟨rfl,em,hd⟩:=p
       exact AD ⟨bw.siz,λb hb=>bw.same b hb⟩ ⟨O,em⟩
      refine AQ.cons O ?_ ?_
      ·
       intro mq hh o
       intro ir en
       have hsN:=SN.st j o
       obtain⟨rfl,eo⟩:=en
       refine LF.callb O O O JF O hsN (C5 (St.all _) eo cp) λit iu iv he iw bx p=>?_
       obtain⟨rfl,⟨ep,eq⟩,hg⟩:=p
       exact AD ⟨bx.siz,λb hb=>bx.same b hb⟩ ⟨O,ep,eq⟩
      exact trivial
     intro iy bz iz er i0 es i1 et i2 eu
     have cq:=SN.st j bz
     cases er
     obtain⟨rfl,ev⟩:=es
     obtain⟨rfl,ew⟩:=et
     obtain⟨rfl,ey,ez⟩:=eu
     have cr:=cq.pick (.tail .head)
     obtain⟨an,ct,E⟩:=bd E
     refine LF.call O O O VK O (MD cr ev ew (AK.mk (x:=ab) ⟨ey,ez⟩) ct) λi3 i4 i5 e0 p=>?_
     have a3:=p
     refine LF.q 1 (QF.fao O HG O (AE ?_))
     obtain⟨ah,X,rfl,i6⟩:=a3.oslen mh
     refine HT (vs:=[(.slice ah an.length X)]) (cs':=[.int .i64 c.Hour,z,(.slice ah an.length X),.slice none 0 0]) O O O O J4 O a3 (.tail (.tail (.tail .head))) O O λi7 cu e1=>LF.nil (kp [33,32,5,4,3,34] O) (Al (WF.rp (.inl O) (QF.addw O O O (QF.mv O O (AA (kp [34,33,32,5,4,3] O) (WF.nil (λaa ww hf hw=>?_)))))))
     have cv:=cu.sel [0,1,1,1] 1 O
     have cw:=a1.trans (bq.trans (bu.trans ((SN.ext j.1 bz).trans (e0.trans e1))))
     exact⟨(Ar (J+1)),(.slice ah an.length X),an,_,_,hf.sub (kp [33,32,5,4,3,34] O),hw,cv,cw,(Au _),E⟩
    ·
     have E:=Aw a2 E
     refine WF.exit O (λaa ww hf hw=>?_)
     exact⟨Z,ak,_,_,hf.sub (kp [5,4,3] O),hw,ag,a1,E⟩
  ·
   rintro aa ww ⟨y,G,a4,a5,hf,hw,a6,b0,E⟩
   refine WF.run ?_ hf hw
   clear hf hw ww aa
   rw[Ew] at E
   refine WF.seq (WF.seq (WF.rp (.inl O) ?_))
   have e2:=bm.mono b0
   refine QF.fa O e2 Du IY O λi8 e3=>QF.ldl Aa a6.1 O e3 Ly O λb1 b2=>QF.len O b2 LX O λi9=>QF.mv O O (AA (kp [54,53,52,5,4] O) (WF.blockJ (λa w=>∃(K:Value) (ao:List AT),IV B a4 a5 (75,[]) a w [(5,.pointer (some ⟨u,0,none⟩)),(4,.pointer (some ⟨C,0,none⟩))] (OS Ab 97 K ao::OS BE 93 y G::OS AK 51 z H::Bx u 36 [.int .i64 c.Hour,z,y,K]::Bx C 36 [.int .i64 0,.slice none 0 0,.slice none 0 0,.slice none 0 0]::L) λ_ _=>Fd N c H G ao=some r) ?_ ?_))
   ·
    refine WF.loopF (λn5=>λa w=>∃(M:Int) (ae:Value) (D:List AT),IV B a4 a5 (75,[]) a w [(53,.int .i64 (↑c.Gates.length:Int)),(52,b1),(5,.pointer (some ⟨u,0,none⟩)),(4,.pointer (some ⟨C,0,none⟩)),(54,.int .i64 M)] (OS Ab 97 ae D::OS BE 93 y G::OS AK 51 z H::Bx u 36 [.int .i64 c.Hour,z,y,ae]::Bx C 36 [.int .i64 0,.slice none 0 0,.slice none 0 0,.slice none 0 0]::L) λ_ _=>AB M∧Et N c (Fd N c H G) n5 M D=some r) N ?_ ?_ ?_
    ·
     intro aa ww hf hw
     have cx:=a6.nil Ab 97
     exact⟨0,(.slice none 0 0),([]),_,_,hf.sub (kp [53,52,5,4,54] O),hw,cx,(BO.refl a4 a5),(iq (n:=0) O),E⟩
    ·
     rintro aa ww ⟨_,_,_,_,_,_,_,_,_,_,E⟩
     rw[Et] at E;cases E
    ·
     rintro n5 aa ww ⟨M,ae,D,e4,ja,hf,hw,ai,a7,jb,E⟩
     refine WF.run ?_ hf hw
     clear hf hw ww aa
     rw[Et] at E
     refine WF.seq (WF.rp (.inl O) (QF.lss O O O (AA (kp [55,53,52,5,4,54] O) (WF.seq (WF.if_ O (λa8=>?_) (λa8=>?_))))))
     ·
      have E:=Av a8 E
      refine WF.skip (WF.seq (WF.block (WF.seq (WF.rl (LF.q 2 ?_)))))
      have e6:=b2.mono' a7
      obtain⟨g,cy,E⟩:=bd E
      refine QF.ixe O O e6 LX cy O λjc e7=>QF.ld Aa ai.1 O e7 G5 (λe=>by cases e) O λjd e8=>AE (LF.al OB O ai λap je cz b3=>?_)
      have e9:=e8.mono b3
      obtain⟨rfl,⟨fb,fc⟩⟩:=DE.ex e9
      refine Aj (vs:=[.int .i64 g.Pos,.int .i64 g.Target,.bool g.Stuck,.bool g.Open]) O O O O G5 O cz .head O λfd d fe=>LF.nil (kp [11,53,52,5,4,54] O) ?_
      obtain⟨k,c0,E⟩:=bd E
      obtain⟨b4,c1,E⟩:=bd E
      obtain⟨s,c2,E⟩:=bd E
      refine Iy (m:=[(11,.pointer (some ⟨ap,0,none⟩)),(53,.int .i64 (↑c.Gates.length:Int)),(52,b1),(5,.pointer (some ⟨u,0,none⟩)),(4,.pointer (some ⟨C,0,none⟩)),(54,.int .i64 M)]) 13 (λi v hh=>match i with|0=>v= .pointer (some ⟨u,3,none⟩)|1=>v=ae|2=>v= .pointer (some ⟨ap,0,none⟩)|3=>v= .int .i64 g.Pos∧AB g.Pos|4=>v= .agg #[.int .i64 k.Lo,.int .i64 k.Hi]∧AB k.Lo∧AB k.Hi|5=>v= .pointer (some ⟨ap,1,none⟩)|6=>v= .int .i64 g.Target∧AB g.Target|7=>v= .pointer (some ⟨ap,3,none⟩)|8=>v= .bool g.Open|9=>v= .int .i64 b4∧AB b4|10=>v= .agg #[.int .i64 s.Lo,.int .i64 s.Hi]∧AB s.Lo∧AB s.Hi|11=>v= .agg #[.int .i64 k.Lo,.int .i64 k.Hi,.int .i64 g.Target,.int .i64 s.Lo,.int .i64 s.Hi]∧AB k.Lo∧AB k.Hi∧AB g.Target∧AB s.Lo∧AB s.Hi|12=>Sl (SN e4 fd hh) hh Ab v ([(⟨k,g.Target,s⟩:AT)]:List AT)∧∃ad,v= .slice (some ad) 1 1|_=>False) [[],[(0,58)],[],[(2,60)],[(3,61)],[],[(5,63)],[],[(7,65)],[(8,66)],[(9,67)],[(4,62),(6,64),(10,68)],[(11,69)]] [(1,59),(12,70)] mo (by kernel_rfl) [11,53,52,5,4,54] O (by kernel_rfl) (by kernel_rfl) (by kernel_rfl) (kp [11,53,52,5,4,54] O) (λi v h1 h2 o1 o2 hr=>?_) ?_ ?_
      ·match i,hr with
        |0,hr=>exact hr
        |1,hr=>exact hr
        |2,hr=>exact hr
        |3,hr=>exact hr
        |4,hr=>exact hr
        |5,hr=>exact hr
        |6,hr=>exact hr
        |7,hr=>exact hr
        |8,hr=>exact hr
        |9,hr=>exact hr
        |10,hr=>exact hr
        |11,hr=>exact hr
        |12,hr=>exact⟨Sl.mono' hr.1 (SN.mono d.1 o1 o2),hr.2⟩
        |_+13,hr=>exact hr.elim
      ·
       refine AQ.cons O ?_ ?_
       ·
        intro mq hh o
        have hsN:=o.st d
        exact LF.q 1 (QF.fao O FV O (AE (AD (Ap.refl _) O)))
       refine AQ.cons O ?_ ?_
       ·
        intro mq hh o
        intro jf ff
        have hsN:=o.st d
        cases ff
        exact LF.q 1 (AI Aa hsN O (mt (mt (mt (mt mh)))) O H9 O (AE (AD (Ap.refl _) O)))
       refine AQ.cons O ?_ ?_
       ·
        intro mq hh o
        have hsN:=o.st d
        exact LF.q 1 (QF.fao O IX O (AE (AD (Ap.refl _) O)))
       refine AQ.cons O ?_ ?_
       ·
        intro mq hh o
        intro jg fg
        have hsN:=o.st d
        cases fg
        exact LF.q 1 (AI Aa hsN O mh O AN O (AE (AD (Ap.refl _) ⟨O,fb⟩)))
       refine AQ.cons O ?_ ?_
       ·
        intro mq hh o
        intro jh fh
        have hsN:=SN.st d o
        obtain⟨rfl,fi⟩:=fh
        refine LF.callb O O O JF O hsN (C5 (St.all _) fi c0) λji jj jk hi jl b5 p=>?_
        obtain⟨rfl,⟨fj,fk⟩,hj⟩:=p
        exact AD ⟨b5.siz,λb hb=>b5.same b hb⟩ ⟨O,fj,fk⟩
       refine AQ.cons O ?_ ?_
       ·
        intro mq hh o
        have hsN:=o.st d
        exact LF.q 1 (QF.fao O MG O (AE (AD (Ap.refl _) O)))
       refine AQ.cons O ?_ ?_
       ·
        intro mq hh o
        intro jm fl
        have hsN:=o.st d
        cases fl
        exact LF.q 1 (AI Aa hsN O mh O AN O (AE (AD (Ap.refl _) ⟨O,fc⟩)))
       refine AQ.cons O ?_ ?_
       ·
        intro mq hh o
        have hsN:=o.st d
        exact LF.q 1 (QF.fao O Jl O (AE (AD (Ap.refl _) O)))
       refine AQ.cons O ?_ ?_
       ·
        intro mq hh o
        intro jn fm
        have hsN:=o.st d
        cases fm
        exact LF.q 1 (AI Aa hsN O mh O Kd O (AE (AD (Ap.refl _) O)))
       refine AQ.cons O ?_ ?_
       ·
        intro mq hh o
        intro jo fn
        have hsN:=SN.st d o
        cases fn
        refine LF.callb O O O VJ O hsN (MC (St.all _) c1) λjp jq jr hk js b6 p=>?_
        obtain⟨rfl,fo,hl⟩:=p
        exact AD ⟨b6.siz,λb hb=>b6.same b hb⟩ ⟨O,fo⟩
       refine AQ.cons O ?_ ?_
       ·
        intro mq hh o
        intro jt fp
        have hsN:=SN.st d o
        obtain⟨rfl,fq⟩:=fp
        refine LF.callb O O O JF O hsN (C5 (St.all _) fq c2) λju jv jw hm jx b7 p=>?_
        obtain⟨rfl,⟨fr,fs⟩,hn⟩:=p
        exact AD ⟨b7.siz,λb hb=>b7.same b hb⟩ ⟨O,fr,fs⟩
       refine AQ.cons O ?_ ?_
       ·
        intro mq hh o
        intro jy ft jz fu j0 fv
        have hsN:=o.st d
        obtain⟨rfl,fw,fx⟩:=ft
        obtain⟨rfl,fy⟩:=fu
        obtain⟨rfl,f0,f1⟩:=fv
        exact LF.q 1 (QF.bld (cs:=[.int .i64 k.Lo,.int .i64 k.Hi,.int .i64 g.Target,.int .i64 s.Lo,.int .i64 s.Hi]) W8 O O O (AE (AD (Ap.refl _) ⟨O,fw,fx,fy,f0,f1⟩)))
       refine AQ.cons O ?_ ?_
       ·
        intro mq hh o
        intro j1 f2
        have hsN:=SN.st d o
        obtain⟨rfl,f3,f4,f5,f6,f7⟩:=f2
        have hsF:=hsN.fz
        refine Gn (cs:=[.int .i64 k.Lo,.int .i64 k.Hi,.int .i64 g.Target,.int .i64 s.Lo,.int .i64 s.Hi]) RC O O O O O O O hsF λj2 j3 c3 f8=>?_
        have c4:=c3.bxos (r:=Ab) (l:=([(⟨k,g.Target,s⟩:AT)]:List AT)) .head ⟨_,_,O,⟨O,⟨f3,f4,f5,f6,f7⟩⟩,O⟩ (by simp [maxLen])
        obtain⟨j4,c5,f9,ga⟩:=c4.pubs .head
        have a9:=Fz.done o (f8.trans f9) c5
        exact AD a9.1 ⟨Sl.mono' ga a9.2,_,O⟩
       exact trivial
      intro j5 b8 j6 gb j7 ba
      have c6:=SN.st d b8
      cases gb
      obtain⟨ba,ho,rfl⟩:=ba
      obtain⟨c7,E⟩:=O4 E
      refine LN (r:=Ab) (l:=D) (xs:=([(⟨k,g.Target,s⟩:AT)]:List AT)) O O RC O (Sl.src ba) O c7 O c6 (λ_=>(.tail .head)) λj8 j9 bb gc=>LF.q 1 (QF.fao O FV O (AE ?_))
      obtain⟨aj,Y,rfl,ka⟩:=bb.oslen (mt mh)
      refine HT (vs:=[(.slice aj (D++([(⟨k,g.Target,s⟩:AT)]:List AT)).length Y)]) (cs':=[.int .i64 c.Hour,z,y,(.slice aj (D++([(⟨k,g.Target,s⟩:AT)]:List AT)).length Y)]) O O O O H9 O bb (.tail (.tail (.tail (.tail .head)))) O O λkb c8 ge=>LF.nil (kp [53,52,5,4,54] O) (Al (WF.rp (.inl O) (QF.addw O O O (QF.mv O O (AA (kp [54,53,52,5,4] O) (WF.nil (λaa ww hf hw=>?_)))))))
      have c9:=c8.sel [1,1,1,1,1] 1 O
      have da:=a7.trans (b3.trans (fe.trans ((SN.ext d.1 b8).trans (gc.trans ge))))
      exact⟨(Ar (M+1)),(.slice aj (D++([(⟨k,g.Target,s⟩:AT)]:List AT)).length Y),(D++([(⟨k,g.Target,s⟩:AT)]:List AT)),_,_,hf.sub (kp [53,52,5,4,54] O),hw,c9,da,(Au _),E⟩
     ·
      have E:=Aw a8 E
      refine WF.exit O (λaa ww hf hw=>?_)
      exact⟨ae,D,_,_,hf.sub (kp [5,4] O),hw,ai,a7,E⟩
   ·
    rintro aa ww ⟨K,ao,kc,kd,hf,hw,I,gf,E⟩
    refine WF.run ?_ hf hw
    clear hf hw ww aa
    rw[Fd] at E
    refine WF.seq (WF.rl (LF.q 1 (QF.ldo (vs:=[.int .i64 c.Hour,z,y,K]) Aa I O (mt (mt (mt mh))) O O Zx O O (AE (LF.st (vs:=[.int .i64 c.Hour,z,y,K]) (cs':=[.int .i64 c.Hour,z,y,K]) O O O (AC O (AC (I.osone (mt (mt mh))) (AC (I.osone (mt mh)) (AC (I.osone mh) C6)))) Zx O I (.tail (.tail (.tail (.tail .head)))) O O λke db gg=>LF.nil (kp [4] O) (WF.ret (λaa ww hf hw=>?_)))))))
    obtain⟨kf,dc,gh,gi⟩:=db.pubs (.tail (.tail .head))
    obtain⟨kg,dd,b9,gj⟩:=dc.pubs (.tail .head)
    obtain⟨kh,de,bc,gk⟩:=dd.pubs .head
    have be:=de.sel [1] 1 O
    have gl:=gi.mono' (b9.trans bc)
    have gm:=gj.mono' bc
    have df:=be.drop .head
    cases E
    have dg:=e5.trans (gq.trans (di.trans (dl.trans (dm.trans (bl.trans (b0.trans (gf.trans (gg.trans (gh.trans (b9.trans bc))))))))))
    exact Hb hf O hw (GF (Md hf hw be O mh Zx O) HW) O dg ⟨(Bj.mk (x:=(⟨c.Hour,H,G,ao⟩:Aq)) gu gl gm gk),df⟩
theorem KP (hs:St S L h) {r:Bool}(E:En N=some r):
 BP Tryz.prog 8 #[] S h (λv S' h'=>v= .bool r∧St S' (L) h'):=by
 refine Ac (l:=[]) 108 Tryz.func8 O Tryz.ntmps8 O λB=>?_
 rw[En] at E
 refine WF.seq (WF.rp (.inl O) (QF.as_ O O (AA KI (WF.seq (WF.rl (LF.q 1 (QF.bld (cs:=[.int .i64 0,.int .i64 0]) W9 O O O (AE (Gn (cs:=[.int .i64 0,.int .i64 0]) Xq O O O O O O O hs λb1 h2 w9 e4=>Gn (cs:=[.int .i64 100]) MM O O O O O O O w9 λb5 h6 xa e8=>LF.q 1 ?_)))))))))
 have xb:=xa.bxos (r:=A8) (l:=([(⟨0,0⟩:BA)]:List BA)) (.tail .head) ⟨_,_,O,⟨O,⟨(iq (n:=0) O),(iq (n:=0) O)⟩⟩,O⟩ (by simp [maxLen])
 obtain⟨fa9,kb,kc,xc⟩:=xb.pubs (.tail .head)
 have kd:=kb.bxos (r:=AW.int) (l:=([100]:List Int)) .head ⟨_,_,O,⟨O,(iq (n:=100) O)⟩,O⟩ (by simp [maxLen])
 obtain⟨gaa,ke,dt,xd⟩:=kd.pubs .head
 refine QF.bld (cs:=[.string (ByteArray.mk #[112]),.int .i64 0,.int .i64 2,.int .i64 120,(.slice (some ⟨b1,0,none⟩) 1 1),(.slice (some ⟨b5,0,none⟩) 1 1),.int .i64 1,.int .i64 10,.int .i64 (-1),.int .i64 0,.int .i64 0,.slice none 0 0]) XC O O O (AE (LF.al Lw O ke λxe gab kf b8=>Aj (vs:=[.string (ByteArray.mk #[112]),.int .i64 0,.int .i64 2,.int .i64 120,(.slice (some ⟨b1,0,none⟩) 1 1),(.slice (some ⟨b5,0,none⟩) 1 1),.int .i64 1,.int .i64 10,.int .i64 (-1),.int .i64 0,.int .i64 0,.slice none 0 0]) O O O O HV O kf .head O λgac kg b9=>LF.nil (kp [1] O) (WF.seq (WF.rl (Gn (cs:=[.string (ByteArray.mk #[97])]) Xs O O O O O O O kg λU gad c6 ca=>LF.q 1 (QF.ldo (vs:=[.string (ByteArray.mk #[112]),.int .i64 0,.int .i64 2,.int .i64 120,(.slice (some ⟨b1,0,none⟩) 1 1),(.slice (some ⟨b5,0,none⟩) 1 1),.int .i64 1,.int .i64 10,.int .i64 (-1),.int .i64 0,.int .i64 0,.slice none 0 0]) Aa c6 O (mt mh) O O HV O O (AE (Gn (cs:=[.string (ByteArray.mk #[112]),.int .i64 0,.int .i64 2,.int .i64 120,(.slice (some ⟨b1,0,none⟩) 1 1),(.slice (some ⟨b5,0,none⟩) 1 1),.int .i64 1,.int .i64 10,.int .i64 (-1),.int .i64 0,.int .i64 0,.slice none 0 0]) Xr O O O O O O O c6 λV gae kh cb=>Gn (cs:=[.int .i64 0,.int .i64 0,.int .i64 0]) MM O O O O O O O kh λW gaf ki cc=>?_))))))))
 refine LF.q 1 ?_
 have kj:=ki.bxos (r:=AW.str) (l:=([(ByteArray.mk #[97])]:List ByteArray)) (.tail (.tail .head)) ⟨_,_,O,⟨O,(by decide)⟩,O⟩ (by simp [maxLen])
 obtain⟨gag,kk,cd,av⟩:=kj.pubs (.tail (.tail .head))
 have kl:=dt.trans (b8.trans (b9.trans (ca.trans (cb.trans (cc.trans cd)))))
 have xf:=xc.mono' kl
 have km:=b8.trans (b9.trans (ca.trans (cb.trans (cc.trans cd))))
 have xg:=xd.mono' km
 have kn:=kk.bxos (r:=A7) (l:=B3) (.tail .head) ⟨_,_,O,⟨_,_,_,O,(by decide),(iq (n:=0) O),(iq (n:=2) O),(iq (n:=120) O),xf,xg,(iq (n:=1) O),(iq (n:=10) O),(iq (n:=(-1)) O),(iq (n:=0) O),(iq (n:=0) O),(.inl ⟨O,O⟩)⟩,O⟩ (by simp [maxLen,B3])
 obtain⟨gah,ko,au,aw⟩:=kn.pubs (.tail .head)
 have kq:=ko.bxos (r:=AW.int) (l:=([0,0,0]:List Int)) .head ⟨_,_,O,⟨O,(iq (n:=0) O)⟩,⟨_,_,O,⟨O,(iq (n:=0) O)⟩,⟨_,_,O,⟨O,(iq (n:=0) O)⟩,O⟩⟩⟩ (by simp [maxLen])
 obtain⟨gai,kr,Y,ax⟩:=kq.pubs .head
 refine QF.bld (cs:=[.string (ByteArray.mk #[98]),(.slice (some ⟨U,0,none⟩) 1 1),.int .i64 0,(.slice (some ⟨V,0,none⟩) 1 1),.slice none 0 0,.slice none 0 0,.slice none 0 0,.slice none 0 0,.slice none 0 0,(.slice (some ⟨W,0,none⟩) 3 3),.int .i64 0]) XD O O O (AE (LF.al Wv O kr λa9 gaj ks C=>Aj (vs:=[.string (ByteArray.mk #[98]),(.slice (some ⟨U,0,none⟩) 1 1),.int .i64 0,(.slice (some ⟨V,0,none⟩) 1 1),.slice none 0 0,.slice none 0 0,.slice none 0 0,.slice none 0 0,.slice none 0 0,(.slice (some ⟨W,0,none⟩) 3 3),.int .i64 0]) O O O O D1 O ks .head O λgak kt D=>LF.nil (kp [2] O) (WF.seq (WF.rl (LF.q 1 (QF.bld (cs:=[.int .i64 100,.int .i64 150]) Ga O O O (AE (Gn (cs:=[.int .i64 100,.int .i64 150]) Nm O O O O O O O kt λZ gal ku F=>LF.q 1 ?_))))))))
 have kv:=ku.bxos (r:=AK) (l:=([(⟨100,150⟩:AF)]:List AF)) .head ⟨_,_,O,⟨O,⟨(iq (n:=100) O),(iq (n:=150) O)⟩⟩,O⟩ (by simp [maxLen])
 obtain⟨gam,kw,G,ay⟩:=kv.pubs .head
 refine QF.bld (cs:=[.int .i64 0,(.slice (some ⟨Z,0,none⟩) 1 1),.slice none 0 0,.slice none 0 0]) SS O O O (AE (LF.al OC O kw λba gan kx u=>Aj (vs:=[.int .i64 0,(.slice (some ⟨Z,0,none⟩) 1 1),.slice none 0 0,.slice none 0 0]) O O O O Zx O kx .head O λgao bl y=>LF.nil (kp [3,2] O) (WF.seq (WF.rl (LF.q 3 (QF.ldo (vs:=[.string (ByteArray.mk #[98]),(.slice (some ⟨U,0,none⟩) 1 1),.int .i64 0,(.slice (some ⟨V,0,none⟩) 1 1),.slice none 0 0,.slice none 0 0,.slice none 0 0,.slice none 0 0,.slice none 0 0,(.slice (some ⟨W,0,none⟩) 3 3),.int .i64 0]) Aa bl O (mt mh) O O D1 O O (QF.ldo (vs:=[.int .i64 0,(.slice (some ⟨Z,0,none⟩) 1 1),.slice none 0 0,.slice none 0 0]) Aa bl O mh O O Zx O O (QF.bld (cs:=[.slice none 0 0,.slice none 0 0,.slice none 0 0,.slice none 0 0,.slice none 0 0]) U9 O O O (AE ?_)))))))))
 have c7:=au.trans (Y.trans (C.trans (D.trans (F.trans (G.trans (u.trans y))))))
 have xh:=av.mono' c7
 have c8:=Y.trans (C.trans (D.trans (F.trans (G.trans (u.trans y)))))
 have xi:=aw.mono' c8
 have c9:=C.trans (D.trans (F.trans (G.trans (u.trans y))))
 have xj:=ax.mono' c9
 have xk:=ay.mono' (u.trans y)
 obtain⟨t,ky,E⟩:=bd E
 refine LF.call O O O YM O (N7 bl (A3.mk (x:=(⟨(ByteArray.mk #[98]),([(ByteArray.mk #[97])]:List ByteArray),0,B3,[],[],[],[],[],([0,0,0]:List Int),0⟩:AJ)) (by decide) xh (iq (n:=0) O) xi (.inl ⟨O,O⟩) (.inl ⟨O,O⟩) (.inl ⟨O,O⟩) (.inl ⟨O,O⟩) (.inl ⟨O,O⟩) xj (iq (n:=0) O)) (Bj.mk (x:=(⟨0,([(⟨100,150⟩:AF)]:List AF),[],[]⟩:Aq)) (iq (n:=0) O) xk (.inl ⟨O,O⟩) (.inl ⟨O,O⟩)) (GY.mk (x:=(⟨[],[],[],[],[]⟩:DF)) (.inl ⟨O,O⟩) (.inl ⟨O,O⟩) (.inl ⟨O,O⟩) (.inl ⟨O,O⟩) (.inl ⟨O,O⟩)) (.inl ⟨O,O⟩:Sl _ _ AW.bool _ []) (.inl ⟨O,O⟩:Sl _ _ AK _ []) ky) λgap gaq gar z p=>?_
 obtain⟨gas,xl,xm,rfl,xn,kz⟩:=p
 refine LF.q 4 (QF.mv O O (QF.ext O O O (QF.ext O O O (QF.ext O O O (AE (LF.al OC O kz λxo gat du j=>?_))))))
 have k0:=xn.mono j
 obtain⟨bm,bn,bo,rfl,zy,bp,da,k1⟩:=Bj.ex k0
 refine LF.st (vs:=[.int .i64 t.1.Hour,bm,bn,bo]) (cs':=[.int .i64 t.1.Hour,bm,bn,bo]) O O O (AC O (AC bp.one (AC da.one (AC k1.one C6)))) Zx O du .head O O λzz bq g=>LF.q 2 (QF.as_ O O (QF.as_ O O (AE (LF.nil (kp [6,5,4,3,2] O) (WF.seq (WF.rl (LF.q 1 (QF.ldo (vs:=[.string (ByteArray.mk #[98]),(.slice (some ⟨U,0,none⟩) 1 1),.int .i64 0,(.slice (some ⟨V,0,none⟩) 1 1),.slice none 0 0,.slice none 0 0,.slice none 0 0,.slice none 0 0,.slice none 0 0,(.slice (some ⟨W,0,none⟩) 3 3),.int .i64 0]) Aa bq O (mt (mt (mt (mt mh)))) O O D1 O O (AE ?_)))))))))
 have dv:=c7.trans (z.trans (j.trans g))
 have k2:=av.mono' dv
 have dw:=c8.trans (z.trans (j.trans g))
 have k3:=aw.mono' dw
 have dx:=c9.trans (z.trans (j.trans g))
 have k4:=ax.mono' dx
 obtain⟨A,dy,E⟩:=bd E
 refine LF.call O O O YK O (NR bq (A3.mk (x:=(⟨(ByteArray.mk #[98]),([(ByteArray.mk #[97])]:List ByteArray),0,B3,[],[],[],[],[],([0,0,0]:List Int),0⟩:AJ)) (by decide) k2 (iq (n:=0) O) k3 (.inl ⟨O,O⟩) (.inl ⟨O,O⟩) (.inl ⟨O,O⟩) (.inl ⟨O,O⟩) (.inl ⟨O,O⟩) k4 (iq (n:=0) O)) (iq (n:=0) O) dy) λz0 bg z1 s p=>?_
 obtain⟨k5,dz⟩:=p
 refine LF.al Rz O dz λa5 z2 d0 k=>?_
 have k6:=k5.mono k
 obtain⟨ac,ad,ae,af,ag,ah,rfl,a6,az,a0,a1,a2,a3,a4⟩:=CA.ex k6
 refine LF.st (vs:=[.int .i64 A.Hour,ac,ad,ae,af,ag,ah]) (cs':=[.int .i64 A.Hour,ac,ad,ae,af,ag,ah]) O O O (AC O (AC az.one (AC a0.one (AC a1.one (AC a2.one (AC a3.one (AC a4.one C6))))))) G6 O d0 .head O O λbh c d=>LF.nil (kp [7,6,5,4,3,2] O) (WF.seq (WF.seq (WF.rp (.inl O) (QF.mv O O (QF.leno c (mt (mt mh)) O EM O λz3=>QF.neq O O O (QF.mv O O (QF.cutv 4 38 (.bool ((decide ((↑t.2.1.length:Int)≠1))||(decide ((↑t.2.2.length:Int)≠1)))) ?_ ?_)))))))
 ·
  cases z4:(decide ((↑t.2.1.length:Int)≠1))
  ·exact QF.gy O O O (QF.mv O O (QF.gy O O O (QF.leno c (mt (mt (mt mh))) O EM O λz5=>QF.gy O O O (QF.neq O O O (QF.pick O O O (AH O))))))
  ·exact AL O O
 refine QF.mv O O (QF.cutv 5 44 (.bool (((decide ((↑t.2.1.length:Int)≠1))||(decide ((↑t.2.2.length:Int)≠1)))||(decide ((↑t.1.Vol.length:Int)≠1)))) ?_ ?_)
 ·
  cases z6:((decide ((↑t.2.1.length:Int)≠1))||(decide ((↑t.2.2.length:Int)≠1)))
  ·
   refine QF.gy O O O (QF.fao O GX O (QF.gy O O O (AI Aa c O (mt mh) O Fq O (QF.gy O O O ?_))))
   have d1:=g.trans (s.trans (k.trans d))
   have k7:=bp.mono' d1
   exact QF.len O k7 EM O λz7=>QF.gy O O O (QF.neq O O O (QF.pick O O O (AH O)))
  ·exact AL O O
 refine AA (kp [44,7,6,5,4,3,2] O) (WF.if_ O (λbr=>?_) (λbr=>?_))
 ·
  have E:=Av br E
  refine WF.seq (WF.rp (.inl O) (QF.as_ O O (AA (kp [0] O) (WF.ret (λaa ww hf hw=>?_)))))
  have d2:=c.sel [] 7 O
  cases E
  have d3:=e4.trans (e8.trans (kc.trans (dt.trans (b8.trans (b9.trans (ca.trans (cb.trans (cc.trans (cd.trans (au.trans (Y.trans (C.trans (D.trans (F.trans (G.trans (u.trans (y.trans (z.trans (j.trans (g.trans (s.trans (k.trans d))))))))))))))))))))))
  exact CS hf hw O O d3 ⟨O,d2⟩
 ·
  have E:=Aw br E
  refine WF.skip (WF.seq (WF.rp (.inl O) (QF.mv O O ?_)))
  obtain⟨z8,d4,E⟩:=bd E
  refine QF.ixoe c (mt (mt mh)) O O EM d4 O λz9 d5=>?_
  obtain⟨k8,d6,E⟩:=bd E
  have k9:=c.epAt (mt (mt mh)) d6 D8.id d5
  refine QF.ld Aa (λ_ x=>x) O k9 Ag (λe=>by cases e) O λaaa la=>QF.bld (cs:=[.int .i64 100,.int .i64 150]) Ga O O O ?_
  obtain⟨rfl,⟨aab,aac⟩⟩:=AK.ex la
  refine QF.eqs O O M3 O O O O (QF.mv O O ?_)
  obtain⟨db,ak,E⟩:=bd E
  refine QF.cutv 6 56 (.bool db) ?_ ?_
  ·
   cases dc:(MX k8.v (⟨100,150⟩:AF).v)
   ·
    have ak:=Aw dc ak
    cases ak
    exact AL O O
   ·
    have ak:=Av dc ak
    refine QF.gy O O O (QF.mv O O (QF.gy O O O ?_))
    obtain⟨aad,d7,ak⟩:=bd ak
    refine QF.ixoe c (mt (mt (mt mh))) O O EM d7 O λaae d8=>QF.gy O O O ?_
    obtain⟨aaf,d9,ak⟩:=bd ak
    have lb:=c.epAt (mt (mt (mt mh))) d9 D8.id d8
    refine QF.ld Aa (λ_ x=>x) O lb Ag (λe=>by cases e) O λaag lc=>QF.gy O O O (QF.bld (cs:=[.int .i64 0,.int .i64 17]) Ga O O O (QF.gy O O O ?_))
    obtain⟨rfl,⟨aah,aai⟩⟩:=AK.ex lc
    refine QF.eqs O O M3 O O O O (QF.pick O O O ?_)
    cases ak
    exact AH O
  refine QF.mv O O ?_
  obtain⟨I,ao,E⟩:=bd E
  refine QF.cutv 7 64 (.bool I) ?_ ?_
  ·
   cases dd:db
   ·
    have ao:=Aw dd ao
    cases ao
    exact AL O O
   ·
    have ao:=Av dd ao
    refine QF.gy O O O (QF.fao O GX O (QF.gy O O O (AI Aa c O (mt mh) O Fq O (QF.gy O O O ?_))))
    have ea:=g.trans (s.trans (k.trans d))
    have le:=bp.mono' ea
    obtain⟨aaj,eb,ao⟩:=bd ao
    refine QF.ixe O O le EM eb O λaak lf=>QF.gy O O O (QF.ld Aa c.1 O lf Ag (λe=>by cases e) O λaal lg=>QF.gy O O O (QF.bld (cs:=[.int .i64 88,.int .i64 120]) Ga O O O (QF.gy O O O ?_)))
    obtain⟨rfl,⟨aam,aan⟩⟩:=AK.ex lg
    refine QF.eqs O O M3 O O O O (QF.pick O O O ?_)
    cases ao
    exact AH O
  refine QF.mv O O (QF.cutv 4 69 (.bool (I&&(decide (t.1.Hour=1)))) ?_ ?_)
  ·
   cases aao:I
   ·exact AL O O
   ·exact QF.gy O O O (QF.fao O Ia O (QF.gy O O O (AI Aa c O (mt mh) O AN O (QF.gy O O O (QF.eql O O O (QF.pick O O O (AH O)))))))
  refine QF.mv O O (QF.cutv 5 75 (.bool ((I&&(decide (t.1.Hour=1)))&&(decide ((↑t.1.Queue.length:Int)=0)))) ?_ ?_)
  ·
   cases aap:(I&&(decide (t.1.Hour=1)))
   ·exact AL O O
   ·
    refine QF.gy O O O (QF.fao O HG O (QF.gy O O O (AI Aa c O (mt mh) O J4 O (QF.gy O O O ?_))))
    have ec:=g.trans (s.trans (k.trans d))
    have lh:=da.mono' ec
    exact QF.len O lh EZ O λaaq=>QF.gy O O O (QF.eql O O O (QF.pick O O O (AH O)))
  refine QF.as_ O O (AA (kp [8,7,3,2] O) (WF.seq ?_))
  obtain⟨aar,ap,E⟩:=bd E
  obtain⟨aas,an,E⟩:=bd E
  obtain⟨aat,am,E⟩:=bd E
  obtain⟨aau,ab,E⟩:=bd E
  obtain⟨li,X,E⟩:=bd E
  refine WF.cut (λa w=>IV B bg bh (108,[]) a w [(0,.bool li)] (Bx a5 71 [.int .i64 A.Hour,ac,ad,ae,af,ag,ah]::Bx xo 36 [.int .i64 t.1.Hour,bm,bn,bo]::OS AK 51 xl t.2.1::OS AK 51 xm t.2.2::Bx ba 36 [.int .i64 0,(.slice (some ⟨Z,0,none⟩) 1 1),.slice none 0 0,.slice none 0 0]::Bx a9 31 [.string (ByteArray.mk #[98]),(.slice (some ⟨U,0,none⟩) 1 1),.int .i64 0,(.slice (some ⟨V,0,none⟩) 1 1),.slice none 0 0,.slice none 0 0,.slice none 0 0,.slice none 0 0,.slice none 0 0,(.slice (some ⟨W,0,none⟩) 3 3),.int .i64 0]::Bx xe 57 [.string (ByteArray.mk #[112]),.int .i64 0,.int .i64 2,.int .i64 120,(.slice (some ⟨b1,0,none⟩) 1 1),(.slice (some ⟨b5,0,none⟩) 1 1),.int .i64 1,.int .i64 10,.int .i64 (-1),.int .i64 0,.int .i64 0,.slice none 0 0]::L) λ_ _=>True) ?_ ?_
  ·
   rcases YP ((I&&(decide (t.1.Hour=1)))&&(decide ((↑t.1.Queue.length:Int)=0))) with H|H
   ·
    have ap:=Aw H ap
    have lj:=Option.some.inj ap
    subst lj
    have ll:=Option.some.inj an
    subst ll
    have lm:=Option.some.inj am
    subst lm
    have lo:=Option.some.inj ab
    subst lo
    have lp:=Option.some.inj X
    subst lp
    refine Iy (m:=[(8,.bool ((I&&(decide (t.1.Hour=1)))&&(decide ((↑t.1.Queue.length:Int)=0)))),(7,.pointer (some ⟨a5,0,none⟩)),(3,.pointer (some ⟨ba,0,none⟩)),(2,.pointer (some ⟨a9,0,none⟩))]) 33 (λi v hh=>match i with|0=>v= .bool ((I&&(decide (t.1.Hour=1)))&&(decide ((↑t.1.Queue.length:Int)=0)))|1=>v= .bool ((I&&(decide (t.1.Hour=1)))&&(decide ((↑t.1.Queue.length:Int)=0)))|2=>v=undef|3=>v=undef|4=>v=undef|5=>v= .bool false|6=>v= .bool false|7=>v=undef|8=>v=undef|9=>v=undef|10=>v= .bool false|11=>v= .bool false|12=>v=undef|13=>v=undef|14=>v=undef|15=>v=undef|16=>v= .bool false|17=>v= .bool false|18=>v=undef|19=>v=undef|20=>v=undef|21=>v=undef|22=>v=undef|23=>v= .bool false|24=>v= .bool false|25=>v=undef|26=>v=undef|27=>v=undef|28=>v=undef|29=>v=undef|30=>v=undef|31=>v= .bool false|32=>v= .bool false|_=>False) [[],[(0,76)],[(1,77)],[(1,77)],[(1,77)],[(1,77),(4,80)],[(5,81)],[(6,82)],[(6,82)],[(6,82)],[(6,82),(9,85)],[(10,86)],[(11,87)],[(11,87)],[(11,87)],[(11,87)],[(11,87),(15,91)],[(16,92)],[(17,93)],[(17,93)],[(17,93)],[(17,93)],[(17,93)],[(17,93),(22,98)],[(23,99)],[(24,100)],[(24,100)],[(24,100)],[(24,100)],[(24,100)],[(24,100)],[(24,100),(30,106)],[(31,107)]] [(32,0)] mo (by kernel_rfl) [8,7,3,2] O (by kernel_rfl) (by kernel_rfl) (by kernel_rfl) (kp [8,7,3,2] O) (λi v h1 h2 o1 o2 hr=>?_) ?_ ?_
    ·match i,hr with
      |0,hr=>exact hr
      |1,hr=>exact hr
      |2,hr=>exact hr
      |3,hr=>exact hr
      |4,hr=>exact hr
      |5,hr=>exact hr
      |6,hr=>exact hr
      |7,hr=>exact hr
      |8,hr=>exact hr
      |9,hr=>exact hr
      |10,hr=>exact hr
      |11,hr=>exact hr
      |12,hr=>exact hr
      |13,hr=>exact hr
      |14,hr=>exact hr
      |15,hr=>exact hr
      |16,hr=>exact hr
      |17,hr=>exact hr
      |18,hr=>exact hr
      |19,hr=>exact hr
      |20,hr=>exact hr
      |21,hr=>exact hr
      |22,hr=>exact hr
      |23,hr=>exact hr
      |24,hr=>exact hr
      |25,hr=>exact hr
      |26,hr=>exact hr
      |27,hr=>exact hr
      |28,hr=>exact hr
      |29,hr=>exact hr
      |30,hr=>exact hr
      |31,hr=>exact hr
      |32,hr=>exact hr
      |_+33,hr=>exact hr.elim
    ·
     refine AQ.cons O ?_ ?_
     ·
      intro mq hh o
      have hsN:=o.st c
      exact LF.q 1 (QF.mv O O (AE (AD (Ap.refl _) O)))
     refine AQ.cons O ?_ ?_
     ·
      intro mq hh o
      intro aav lq
      have hsN:=o.st c
      cases lq
      exact LF.q 1 (QF.mv O O (AE (AD (Ap.refl _) O)))
     refine AQ.cons O ?_ ?_
     ·
      intro mq hh o
      intro lr ls
      have hsN:=o.st c
      obtain rfl:lr= .bool false:=Eq.trans ls (congrArg Value.bool H)
      exact⟨77,O,.inr ⟨_,O,(by simp [yb,undef]),O⟩⟩
     refine AQ.cons O ?_ ?_
     ·
      intro mq hh o
      intro lt lu
      have hsN:=o.st c
      obtain rfl:lt= .bool false:=Eq.trans lu (congrArg Value.bool H)
      exact⟨77,O,.inr ⟨_,O,(by simp [yb,undef]),O⟩⟩
     refine AQ.cons O ?_ ?_
     ·
      intro mq hh o
      intro lv lw
      have hsN:=SN.st c o
      obtain rfl:lv= .bool false:=Eq.trans lw (congrArg Value.bool H)
      exact⟨77,O,.inr ⟨_,O,(by simp [yb,undef]),O⟩⟩
     refine AQ.cons O ?_ ?_
     ·
      intro mq hh o
      intro lx ly aaw lz
      have hsN:=o.st c
      obtain rfl:lx= .bool false:=Eq.trans ly (congrArg Value.bool H)
      cases lz
      exact LF.q 1 (QF.pick O O O (AE (AD (Ap.refl _) O)))
     refine AQ.cons O ?_ ?_
     ·
      intro mq hh o
      intro aax l0
      have hsN:=o.st c
      cases l0
      exact LF.q 1 (QF.mv O O (AE (AD (Ap.refl _) O)))
     refine AQ.cons O ?_ ?_
     ·
      intro mq hh o
      intro aay l1
      have hsN:=o.st c
      cases l1
      exact⟨82,O,.inr ⟨_,O,(by simp [yb,undef]),O⟩⟩
     refine AQ.cons O ?_ ?_
     ·
      intro mq hh o
      intro aaz l2
      have hsN:=SN.st c o
      cases l2
      exact⟨82,O,.inr ⟨_,O,(by simp [yb,undef]),O⟩⟩
     refine AQ.cons O ?_ ?_
     ·
      intro mq hh o
      intro aa0 l3
      have hsN:=o.st c
      cases l3
      exact⟨82,O,.inr ⟨_,O,(by simp [yb,undef]),O⟩⟩
     refine AQ.cons O ?_ ?_
     ·
      intro mq hh o
      intro aa1 l4 aa2 l5
      have hsN:=o.st c
      cases l4
      cases l5
      exact LF.q 1 (QF.pick O O O (AE (AD (Ap.refl _) O)))
     refine AQ.cons O ?_ ?_
     ·
      intro mq hh o
      intro aa3 l6
      have hsN:=o.st c
      cases l6
      exact LF.q 1 (QF.mv O O (AE (AD (Ap.refl _) O)))
     refine AQ.cons O ?_ ?_
     ·
      intro mq hh o
      intro aa4 l7
      have hsN:=o.st c
      cases l7
      exact⟨87,O,.inr ⟨_,O,(by simp [yb,undef]),O⟩⟩
     refine AQ.cons O ?_ ?_
     ·
      intro mq hh o
      intro aa5 l8
      have hsN:=o.st c
      cases l8
      exact⟨87,O,.inr ⟨_,O,(by simp [yb,undef]),O⟩⟩
     refine AQ.cons O ?_ ?_
     ·
      intro mq hh o
      intro aa6 l9
      have hsN:=o.st c
      cases l9
      exact⟨87,O,.inr ⟨_,O,(by simp [yb,undef]),O⟩⟩
     refine AQ.cons O ?_ ?_
     ·
      intro mq hh o
      intro aa7 ma
      have hsN:=SN.st c o
      cases ma
      exact⟨87,O,.inr ⟨_,O,(by simp [yb,undef]),O⟩⟩
     refine AQ.cons O ?_ ?_
     ·
      intro mq hh o
      intro aa8 mb aa9 mc
      have hsN:=o.st c
      cases mb
      cases mc
      exact LF.q 1 (QF.pick O O O (AE (AD (Ap.refl _) O)))
     refine AQ.cons O ?_ ?_
     ·
      intro mq hh o
      intro baa md
      have hsN:=o.st c
      cases md
      exact LF.q 1 (QF.mv O O (AE (AD (Ap.refl _) O)))
     refine AQ.cons O ?_ ?_
     ·
      intro mq hh o
      intro bab me
      have hsN:=o.st c
      cases me
      exact⟨93,O,.inr ⟨_,O,(by simp [yb,undef]),O⟩⟩
     refine AQ.cons O ?_ ?_
     ·
      intro mq hh o
      intro bac mf
      have hsN:=o.st c
      cases mf
      exact⟨93,O,.inr ⟨_,O,(by simp [yb,undef]),O⟩⟩
     refine AQ.cons O ?_ ?_
     ·
      intro mq hh o
      intro bad mg
      have hsN:=SN.st c o
      cases mg
      exact⟨93,O,.inr ⟨_,O,(by simp [yb,undef]),O⟩⟩
     refine AQ.cons O ?_ ?_
     ·
      intro mq hh o
      intro bae mi
      have hsN:=SN.st c o
      cases mi
      exact⟨93,O,.inr ⟨_,O,(by simp [yb,undef]),O⟩⟩
     refine AQ.cons O ?_ ?_
     ·
      intro mq hh o
      intro baf mj
      have hsN:=o.st c
      cases mj
      exact⟨93,O,.inr ⟨_,O,(by simp [yb,undef]),O⟩⟩
     refine AQ.cons O ?_ ?_
     ·
      intro mq hh o
      intro bag ml bah mm
      have hsN:=o.st c
      cases ml
      cases mm
      exact LF.q 1 (QF.pick O O O (AE (AD (Ap.refl _) O)))
     refine AQ.cons O ?_ ?_
     ·
      intro mq hh o
      intro bai mn
      have hsN:=o.st c
      cases mn
      exact LF.q 1 (QF.mv O O (AE (AD (Ap.refl _) O)))
     refine AQ.cons O ?_ ?_
     ·
      intro mq hh o
      intro baj mp
      have hsN:=o.st c
      cases mp
      exact⟨100,O,.inr ⟨_,O,(by simp [yb,undef]),O⟩⟩
     refine AQ.cons O ?_ ?_
     ·
      intro mq hh o
      intro bak mr
      have hsN:=o.st c
      cases mr
      exact⟨100,O,.inr ⟨_,O,(by simp [yb,undef]),O⟩⟩
     refine AQ.cons O ?_ ?_
     ·
      intro mq hh o
      intro bal ms
      have hsN:=o.st c
      cases ms
      exact⟨100,O,.inr ⟨_,O,(by simp [yb,undef]),O⟩⟩
     refine AQ.cons O ?_ ?_
     ·
      intro mq hh o
      intro bam mu
      have hsN:=SN.st c o
      cases mu
      exact⟨100,O,.inr ⟨_,O,(by simp [yb,undef]),O⟩⟩
     refine AQ.cons O ?_ ?_
     ·
      intro mq hh o
      intro ban mw
      have hsN:=o.st c
      cases mw
      exact⟨100,O,.inr ⟨_,O,(by simp [yb,undef]),O⟩⟩
     refine AQ.cons O ?_ ?_
     ·
      intro mq hh o
      intro bao mx
      have hsN:=SN.st c o
      cases mx
      exact⟨100,O,.inr ⟨_,O,(by simp [yb,undef]),O⟩⟩
     refine AQ.cons O ?_ ?_
     ·
      intro mq hh o
      intro bap my baq mz
      have hsN:=o.st c
      cases my
      cases mz
      exact LF.q 1 (QF.pick O O O (AE (AD (Ap.refl _) O)))
     refine AQ.cons O ?_ ?_
     ·
      intro mq hh o
      intro bar m0
      have hsN:=o.st c
      cases m0
      exact LF.q 1 (QF.as_ O O (AE (AD (Ap.refl _) O)))
     exact trivial
    intro bas de bat m1
    have ed:=SN.st c de
    cases m1
    exact LF.nil (kp [0] O) (WF.nil (λaa ww hf hw=>⟨_,_,hf.sub (kp [0] O),hw,ed,(SN.ext c.1 de),trivial⟩))
   ·
    have ap:=Av H ap
    obtain⟨aj,a7,ap⟩:=bd ap
    have m2:=Option.some.inj ap
    subst m2
    rcases YP aj with J|J
    ·
     have an:=Aw J an
     have m3:=Option.some.inj an
     subst m3
     have m4:=Option.some.inj am
     subst m4
     have m5:=Option.some.inj ab
     subst m5
     have m6:=Option.some.inj X
     subst m6
     refine Iy (m:=[(8,.bool ((I&&(decide (t.1.Hour=1)))&&(decide ((↑t.1.Queue.length:Int)=0)))),(7,.pointer (some ⟨a5,0,none⟩)),(3,.pointer (some ⟨ba,0,none⟩)),(2,.pointer (some ⟨a9,0,none⟩))]) 33 (λi v hh=>match i with|0=>v= .bool ((I&&(decide (t.1.Hour=1)))&&(decide ((↑t.1.Queue.length:Int)=0)))|1=>v= .bool ((I&&(decide (t.1.Hour=1)))&&(decide ((↑t.1.Queue.length:Int)=0)))|2=>v= .agg #[.string (ByteArray.mk #[98]),(.slice (some ⟨U,0,none⟩) 1 1),.int .i64 0,(.slice (some ⟨V,0,none⟩) 1 1),.slice none 0 0,.slice none 0 0,.slice none 0 0,.slice none 0 0,.slice none 0 0,(.slice (some ⟨W,0,none⟩) 3 3),.int .i64 0]∧(ByteArray.mk #[98]).size≤maxLen∧AB 0∧AB 0|3=>v= .agg #[.int .i64 0,(.slice (some ⟨Z,0,none⟩) 1 1),.slice none 0 0,.slice none 0 0]∧AB 0|4=>v= .bool aj|5=>v= .bool aj|6=>v= .bool aj|7=>v=undef|8=>v=undef|9=>v=undef|10=>v= .bool false|11=>v= .bool false|12=>v=undef|13=>v=undef|14=>v=undef|15=>v=undef|16=>v= .bool false|17=>v= .bool false|18=>v=undef|19=>v=undef|20=>v=undef|21=>v=undef|22=>v=undef|23=>v= .bool false|24=>v= .bool false|25=>v=undef|26=>v=undef|27=>v=undef|28=>v=undef|29=>v=undef|30=>v=undef|31=>v= .bool false|32=>v= .bool false|_=>False) [[],[(0,76)],[(1,77)],[(1,77)],[(2,78),(3,79),(1,77)],[(1,77),(4,80)],[(5,81)],[(6,82)],[(6,82)],[(6,82)],[(6,82),(9,85)],[(10,86)],[(11,87)],[(11,87)],[(11,87)],[(11,87)],[(11,87),(15,91)],[(16,92)],[(17,93)],[(17,93)],[(17,93)],[(17,93)],[(17,93)],[(17,93),(22,98)],[(23,99)],[(24,100)],[(24,100)],[(24,100)],[(24,100)],[(24,100)],[(24,100)],[(24,100),(30,106)],[(31,107)]] [(32,0)] mo (by kernel_rfl) [8,7,3,2] O (by kernel_rfl) (by kernel_rfl) (by kernel_rfl) (kp [8,7,3,2] O) (λi v h1 h2 o1 o2 hr=>?_) ?_ ?_
     ·match i,hr with
       |0,hr=>exact hr
       |1,hr=>exact hr
       |2,hr=>exact hr
       |3,hr=>exact hr
       |4,hr=>exact hr
       |5,hr=>exact hr
       |6,hr=>exact hr
       |7,hr=>exact hr
       |8,hr=>exact hr
       |9,hr=>exact hr
       |10,hr=>exact hr
       |11,hr=>exact hr
       |12,hr=>exact hr
       |13,hr=>exact hr
       |14,hr=>exact hr
       |15,hr=>exact hr
       |16,hr=>exact hr
       |17,hr=>exact hr
       |18,hr=>exact hr
       |19,hr=>exact hr
       |20,hr=>exact hr
       |21,hr=>exact hr
       |22,hr=>exact hr
       |23,hr=>exact hr
       |24,hr=>exact hr
       |25,hr=>exact hr
       |26,hr=>exact hr
       |27,hr=>exact hr
       |28,hr=>exact hr
       |29,hr=>exact hr
       |30,hr=>exact hr
       |31,hr=>exact hr
       |32,hr=>exact hr
       |_+33,hr=>exact hr.elim
     ·
      refine AQ.cons O ?_ ?_
      ·
       intro mq hh o
       have hsN:=o.st c
       exact LF.q 1 (QF.mv O O (AE (AD (Ap.refl _) O)))
      refine AQ.cons O ?_ ?_
      ·
       intro mq hh o
       intro bau m7
       have hsN:=o.st c
       cases m7
       exact LF.q 1 (QF.mv O O (AE (AD (Ap.refl _) O)))
      refine AQ.cons O ?_ ?_
      ·
       intro mq hh o
       intro m8 m9
       have hsN:=o.st c
       obtain rfl:m8= .bool true:=Eq.trans m9 (congrArg Value.bool H)
       refine⟨77,O,.inl ⟨O,?_⟩⟩
       exact LF.q 1 (QF.ldo (vs:=[.string (ByteArray.mk #[98]),(.slice (some ⟨U,0,none⟩) 1 1),.int .i64 0,(.slice (some ⟨V,0,none⟩) 1 1),.slice none 0 0,.slice none 0 0,.slice none 0 0,.slice none 0 0,.slice none 0 0,(.slice (some ⟨W,0,none⟩) 3 3),.int .i64 0]) Aa hsN O (mt (mt (mt (mt (mt mh))))) O O D1 O O (AE (AD (Ap.refl _) ⟨O,(by decide),(iq (n:=0) O),(iq (n:=0) O)⟩)))
      refine AQ.cons O ?_ ?_
      ·
       intro mq hh o
       intro na nb
       have hsN:=o.st c
       obtain rfl:na= .bool true:=Eq.trans nb (congrArg Value.bool H)
       refine⟨77,O,.inl ⟨O,?_⟩⟩
       exact LF.q 1 (QF.ldo (vs:=[.int .i64 0,(.slice (some ⟨Z,0,none⟩) 1 1),.slice none 0 0,.slice none 0 0]) Aa hsN O (mt (mt (mt (mt mh)))) O O Zx O O (AE (AD (Ap.refl _) ⟨O,(iq (n:=0) O)⟩)))
      refine AQ.cons O ?_ ?_
      ·
       intro mq hh o
       intro bav nc baw nd ne nf
       have hsN:=SN.st c o
       obtain⟨rfl,ng,nh,ni⟩:=nc
       obtain⟨rfl,nj⟩:=nd
       obtain rfl:ne= .bool true:=Eq.trans nf (congrArg Value.bool H)
       refine⟨77,O,.inl ⟨O,?_⟩⟩
       have ee:=au.trans (Y.trans (C.trans (D.trans (F.trans (G.trans (u.trans (y.trans (z.trans (j.trans (g.trans (s.trans (k.trans (d.trans (SN.ext c.1 o))))))))))))))
       have nk:=av.mono' ee
       have ef:=Y.trans (C.trans (D.trans (F.trans (G.trans (u.trans (y.trans (z.trans (j.trans (g.trans (s.trans (k.trans (d.trans (SN.ext c.1 o)))))))))))))
       have nl:=aw.mono' ef
       have eg:=C.trans (D.trans (F.trans (G.trans (u.trans (y.trans (z.trans (j.trans (g.trans (s.trans (k.trans (d.trans (SN.ext c.1 o))))))))))))
       have nm:=ax.mono' eg
       have eh:=u.trans (y.trans (z.trans (j.trans (g.trans (s.trans (k.trans (d.trans (SN.ext c.1 o))))))))
       have nn:=ay.mono' eh
       refine LF.callb O O O OT O hsN (Ft (St.all _) (A3.mk (x:=(⟨(ByteArray.mk #[98]),([(ByteArray.mk #[97])]:List ByteArray),0,B3,[],[],[],[],[],([0,0,0]:List Int),0⟩:AJ)) ng (nk.mono (λb hb=>hsN.1 b hb) (λ_ _=>rfl)) nh (nl.mono (λb hb=>hsN.1 b hb) (λ_ _=>rfl)) (.inl ⟨O,O⟩) (.inl ⟨O,O⟩) (.inl ⟨O,O⟩) (.inl ⟨O,O⟩) (.inl ⟨O,O⟩) (nm.mono (λb hb=>hsN.1 b hb) (λ_ _=>rfl)) ni) (Bj.mk (x:=(⟨0,([(⟨100,150⟩:AF)]:List AF),[],[]⟩:Aq)) nj (nn.mono (λb hb=>hsN.1 b hb) (λ_ _=>rfl)) (.inl ⟨O,O⟩) (.inl ⟨O,O⟩)) a7) λbax bay baz xp ba0 df p=>?_
       obtain⟨rfl,xq⟩:=p
       exact AD ⟨df.siz,λb hb=>df.same b hb⟩ O
      refine AQ.cons O ?_ ?_
      ·
       intro mq hh o
       intro no np ba1 nq
       have hsN:=o.st c
       obtain rfl:no= .bool true:=Eq.trans np (congrArg Value.bool H)
       cases nq
       exact LF.q 1 (QF.pick O O O (AE (AD (Ap.refl _) O)))
      refine AQ.cons O ?_ ?_
      ·
       intro mq hh o
       intro ba2 nr
       have hsN:=o.st c
       cases nr
       exact LF.q 1 (QF.mv O O (AE (AD (Ap.refl _) O)))
      refine AQ.cons O ?_ ?_
      ·
       intro mq hh o
       intro ns nt
       have hsN:=o.st c
       obtain rfl:ns= .bool false:=Eq.trans nt (congrArg Value.bool J)
       exact⟨82,O,.inr ⟨_,O,(by simp [yb,undef]),O⟩⟩
      refine AQ.cons O ?_ ?_
      ·
       intro mq hh o
       intro nu nv
       have hsN:=SN.st c o
       obtain rfl:nu= .bool false:=Eq.trans nv (congrArg Value.bool J)
       exact⟨82,O,.inr ⟨_,O,(by simp [yb,undef]),O⟩⟩
      refine AQ.cons O ?_ ?_
      ·
       intro mq hh o
       intro nw nx
       have hsN:=o.st c
       obtain rfl:nw= .bool false:=Eq.trans nx (congrArg Value.bool J)
       exact⟨82,O,.inr ⟨_,O,(by simp [yb,undef]),O⟩⟩
      refine AQ.cons O ?_ ?_
      ·
       intro mq hh o
       intro ny nz ba3 n0
       have hsN:=o.st c
       obtain rfl:ny= .bool false:=Eq.trans nz (congrArg Value.bool J)
       cases n0
       exact LF.q 1 (QF.pick O O O (AE (AD (Ap.refl _) O)))
      refine AQ.cons O ?_ ?_
      ·
       intro mq hh o
       intro ba4 n1
       have hsN:=o.st c
       cases n1
       exact LF.q 1 (QF.mv O O (AE (AD (Ap.refl _) O)))
      refine AQ.cons O ?_ ?_
      ·
       intro mq hh o
       intro ba5 n2
       have hsN:=o.st c
       cases n2
       exact⟨87,O,.inr ⟨_,O,(by simp [yb,undef]),O⟩⟩
      refine AQ.cons O ?_ ?_
      ·
       intro mq hh o
       intro ba6 n3
       have hsN:=o.st c
       cases n3
       exact⟨87,O,.inr ⟨_,O,(by simp [yb,undef]),O⟩⟩
      refine AQ.cons O ?_ ?_
      ·
       intro mq hh o
       intro ba7 n4
       have hsN:=o.st c
       cases n4
       exact⟨87,O,.inr ⟨_,O,(by simp [yb,undef]),O⟩⟩
      refine AQ.cons O ?_ ?_
      ·
       intro mq hh o
       intro ba8 n5
       have hsN:=SN.st c o
       cases n5
       exact⟨87,O,.inr ⟨_,O,(by simp [yb,undef]),O⟩⟩
      refine AQ.cons O ?_ ?_
      ·
       intro mq hh o
       intro ba9 n6 caa n7
       have hsN:=o.st c
       cases n6
       cases n7
       exact LF.q 1 (QF.pick O O O (AE (AD (Ap.refl _) O)))
      refine AQ.cons O ?_ ?_
      ·
       intro mq hh o
       intro cab n8
       have hsN:=o.st c
       cases n8
       exact LF.q 1 (QF.mv O O (AE (AD (Ap.refl _) O)))
      refine AQ.cons O ?_ ?_
      ·
       intro mq hh o
       intro cac n9
       have hsN:=o.st c
       cases n9
       exact⟨93,O,.inr ⟨_,O,(by simp [yb,undef]),O⟩⟩
      refine AQ.cons O ?_ ?_
      ·
       intro mq hh o
       intro cad oa
       have hsN:=o.st c
       cases oa
       exact⟨93,O,.inr ⟨_,O,(by simp [yb,undef]),O⟩⟩
      refine AQ.cons O ?_ ?_
      ·
       intro mq hh o
       intro cae ob
       have hsN:=SN.st c o
       cases ob
       exact⟨93,O,.inr ⟨_,O,(by simp [yb,undef]),O⟩⟩
      refine AQ.cons O ?_ ?_
      ·
       intro mq hh o
       intro caf oc
       have hsN:=SN.st c o
       cases oc
       exact⟨93,O,.inr ⟨_,O,(by simp [yb,undef]),O⟩⟩
      refine AQ.cons O ?_ ?_
      ·
       intro mq hh o
       intro cag od
       have hsN:=o.st c
       cases od
       exact⟨93,O,.inr ⟨_,O,(by simp [yb,undef]),O⟩⟩
      refine AQ.cons O ?_ ?_
      ·
       intro mq hh o
       intro cah oe cai og
       have hsN:=o.st c
       cases oe
       cases og
       exact LF.q 1 (QF.pick O O O (AE (AD (Ap.refl _) O)))
      refine AQ.cons O ?_ ?_
      ·
       intro mq hh o
       intro caj oh
       have hsN:=o.st c
       cases oh
       exact LF.q 1 (QF.mv O O (AE (AD (Ap.refl _) O)))
      refine AQ.cons O ?_ ?_
      ·
       intro mq hh o
       intro cak oi
       have hsN:=o.st c
       cases oi
       exact⟨100,O,.inr ⟨_,O,(by simp [yb,undef]),O⟩⟩
      refine AQ.cons O ?_ ?_
      ·
       intro mq hh o
       intro cal oj
       have hsN:=o.st c
       cases oj
       exact⟨100,O,.inr ⟨_,O,(by simp [yb,undef]),O⟩⟩
      refine AQ.cons O ?_ ?_
      ·
       intro mq hh o
       intro cam ok
       have hsN:=o.st c
       cases ok
       exact⟨100,O,.inr ⟨_,O,(by simp [yb,undef]),O⟩⟩
      refine AQ.cons O ?_ ?_
      ·
       intro mq hh o
       intro can ol
       have hsN:=SN.st c o
       cases ol
       exact⟨100,O,.inr ⟨_,O,(by simp [yb,undef]),O⟩⟩
      refine AQ.cons O ?_ ?_
      ·
       intro mq hh o
       intro cao om
       have hsN:=o.st c
       cases om
       exact⟨100,O,.inr ⟨_,O,(by simp [yb,undef]),O⟩⟩
      refine AQ.cons O ?_ ?_
      ·
       intro mq hh o
       intro cap oo
       have hsN:=SN.st c o
       cases oo
       exact⟨100,O,.inr ⟨_,O,(by simp [yb,undef]),O⟩⟩
      refine AQ.cons O ?_ ?_
      ·
       intro mq hh o
       intro caq op car oq
       have hsN:=o.st c
       cases op
       cases oq
       exact LF.q 1 (QF.pick O O O (AE (AD (Ap.refl _) O)))
      refine AQ.cons O ?_ ?_
      ·
       intro mq hh o
       intro cas os
       have hsN:=o.st c
       cases os
       exact LF.q 1 (QF.as_ O O (AE (AD (Ap.refl _) O)))
      exact trivial
     intro cat dg cau ot
     have ei:=SN.st c dg
     cases ot
     exact LF.nil (kp [0] O) (WF.nil (λaa ww hf hw=>⟨_,_,hf.sub (kp [0] O),hw,ei,(SN.ext c.1 dg),trivial⟩))
    ·
     have an:=Av J an
     obtain⟨M,a8,an⟩:=bd an
     have ou:=Option.some.inj an
     subst ou
     rcases YP (decide (M=50)) with K|K
     ·
      have am:=Aw K am
      have ov:=Option.some.inj am
      subst ov
      have ow:=Option.some.inj ab
      subst ow
      have ox:=Option.some.inj X
      subst ox
      refine Iy (m:=[(8,.bool ((I&&(decide (t.1.Hour=1)))&&(decide ((↑t.1.Queue.length:Int)=0)))),(7,.pointer (some ⟨a5,0,none⟩)),(3,.pointer (some ⟨ba,0,none⟩)),(2,.pointer (some ⟨a9,0,none⟩))]) 33 (λi v hh=>match i with|0=>v= .bool ((I&&(decide (t.1.Hour=1)))&&(decide ((↑t.1.Queue.length:Int)=0)))|1=>v= .bool ((I&&(decide (t.1.Hour=1)))&&(decide ((↑t.1.Queue.length:Int)=0)))|2=>v= .agg #[.string (ByteArray.mk #[98]),(.slice (some ⟨U,0,none⟩) 1 1),.int .i64 0,(.slice (some ⟨V,0,none⟩) 1 1),.slice none 0 0,.slice none 0 0,.slice none 0 0,.slice none 0 0,.slice none 0 0,(.slice (some ⟨W,0,none⟩) 3 3),.int .i64 0]∧(ByteArray.mk #[98]).size≤maxLen∧AB 0∧AB 0|3=>v= .agg #[.int .i64 0,(.slice (some ⟨Z,0,none⟩) 1 1),.slice none 0 0,.slice none 0 0]∧AB 0|4=>v= .bool aj|5=>v= .bool aj|6=>v= .bool aj|7=>v= .agg #[.int .i64 0,(.slice (some ⟨Z,0,none⟩) 1 1),.slice none 0 0,.slice none 0 0]∧AB 0|8=>v= .int .i64 M∧AB M|9=>v= .bool (decide (M=50))|10=>v= .bool (decide (M=50))|11=>v= .bool (decide (M=50))|12=>v=undef|13=>v=undef|14=>v=undef|15=>v=undef|16=>v= .bool false|17=>v= .bool false|18=>v=undef|19=>v=undef|20=>v=undef|21=>v=undef|22=>v=undef|23=>v= .bool false|24=>v= .bool false|25=>v=undef|26=>v=undef|27=>v=undef|28=>v=undef|29=>v=undef|30=>v=undef|31=>v= .bool false|32=>v= .bool false|_=>False) [[],[(0,76)],[(1,77)],[(1,77)],[(2,78),(3,79),(1,77)],[(1,77),(4,80)],[(5,81)],[(6,82)],[(7,83),(6,82)],[(8,84),(6,82)],[(6,82),(9,85)],[(10,86)],[(11,87)],[(11,87)],[(11,87)],[(11,87)],[(11,87),(15,91)],[(16,92)],[(17,93)],[(17,93)],[(17,93)],[(17,93)],[(17,93)],[(17,93),(22,98)],[(23,99)],[(24,100)],[(24,100)],[(24,100)],[(24,100)],[(24,100)],[(24,100)],[(24,100),(30,106)],[(31,107)]] [(32,0)] mo (by kernel_rfl) [8,7,3,2] O (by kernel_rfl) (by kernel_rfl) (by kernel_rfl) (kp [8,7,3,2] O) (λi v h1 h2 o1 o2 hr=>?_) ?_ ?_
      ·match i,hr with
        |0,hr=>exact hr
        |1,hr=>exact hr
        |2,hr=>exact hr
        |3,hr=>exact hr
        |4,hr=>exact hr
        |5,hr=>exact hr
        |6,hr=>exact hr
        |7,hr=>exact hr
        |8,hr=>exact hr
        |9,hr=>exact hr
        |10,hr=>exact hr
        |11,hr=>exact hr
        |12,hr=>exact hr
        |13,hr=>exact hr
        |14,hr=>exact hr
        |15,hr=>exact hr
        |16,hr=>exact hr
        |17,hr=>exact hr
        |18,hr=>exact hr
        |19,hr=>exact hr
        |20,hr=>exact hr
        |21,hr=>exact hr
        |22,hr=>exact hr
        |23,hr=>exact hr
        |24,hr=>exact hr
        |25,hr=>exact hr
        |26,hr=>exact hr
        |27,hr=>exact hr
        |28,hr=>exact hr
        |29,hr=>exact hr
        |30,hr=>exact hr
        |31,hr=>exact hr
        |32,hr=>exact hr
        |_+33,hr=>exact hr.elim
      ·
       refine AQ.cons O ?_ ?_
       ·
        intro mq hh o
        have hsN:=o.st c
        exact LF.q 1 (QF.mv O O (AE (AD (Ap.refl _) O)))
       refine AQ.cons O ?_ ?_
       ·
        intro mq hh o
        intro cav oy
        have hsN:=o.st c
        cases oy
        exact LF.q 1 (QF.mv O O (AE (AD (Ap.refl _) O)))
       refine AQ.cons O ?_ ?_
       ·
        intro mq hh o
        intro oz o0
        have hsN:=o.st c
        obtain rfl:oz= .bool true:=Eq.trans o0 (congrArg Value.bool H)
        refine⟨77,O,.inl ⟨O,?_⟩⟩
        exact LF.q 1 (QF.ldo (vs:=[.string (ByteArray.mk #[98]),(.slice (some ⟨U,0,none⟩) 1 1),.int .i64 0,(.slice (some ⟨V,0,none⟩) 1 1),.slice none 0 0,.slice none 0 0,.slice none 0 0,.slice none 0 0,.slice none 0 0,(.slice (some ⟨W,0,none⟩) 3 3),.int .i64 0]) Aa hsN O (mt (mt (mt (mt (mt mh))))) O O D1 O O (AE (AD (Ap.refl _) ⟨O,(by decide),(iq (n:=0) O),(iq (n:=0) O)⟩)))
       refine AQ.cons O ?_ ?_
       ·
        intro mq hh o
        intro o3 o4
        have hsN:=o.st c
        obtain rfl:o3= .bool true:=Eq.trans o4 (congrArg Value.bool H)
        refine⟨77,O,.inl ⟨O,?_⟩⟩
        exact LF.q 1 (QF.ldo (vs:=[.int .i64 0,(.slice (some ⟨Z,0,none⟩) 1 1),.slice none 0 0,.slice none 0 0]) Aa hsN O (mt (mt (mt (mt mh)))) O O Zx O O (AE (AD (Ap.refl _) ⟨O,(iq (n:=0) O)⟩)))
       refine AQ.cons O ?_ ?_
       ·
        intro mq hh o
        intro caw o5 cax o6 o7 o8
        have hsN:=SN.st c o
        obtain⟨rfl,o9,pa,pb⟩:=o5
        obtain⟨rfl,pc⟩:=o6
        obtain rfl:o7= .bool true:=Eq.trans o8 (congrArg Value.bool H)
        refine⟨77,O,.inl ⟨O,?_⟩⟩
        have ej:=au.trans (Y.trans (C.trans (D.trans (F.trans (G.trans (u.trans (y.trans (z.trans (j.trans (g.trans (s.trans (k.trans (d.trans (SN.ext c.1 o))))))))))))))
        have pd:=av.mono' ej
        have ek:=Y.trans (C.trans (D.trans (F.trans (G.trans (u.trans (y.trans (z.trans (j.trans (g.trans (s.trans (k.trans (d.trans (SN.ext c.1 o)))))))))))))
        have pe:=aw.mono' ek
        have el:=C.trans (D.trans (F.trans (G.trans (u.trans (y.trans (z.trans (j.trans (g.trans (s.trans (k.trans (d.trans (SN.ext c.1 o))))))))))))
        have pf:=ax.mono' el
        have em:=u.trans (y.trans (z.trans (j.trans (g.trans (s.trans (k.trans (d.trans (SN.ext c.1 o))))))))
        have pg:=ay.mono' em
        refine LF.callb O O O OT O hsN (Ft (St.all _) (A3.mk (x:=(⟨(ByteArray.mk #[98]),([(ByteArray.mk #[97])]:List ByteArray),0,B3,[],[],[],[],[],([0,0,0]:List Int),0⟩:AJ)) o9 (pd.mono (λb hb=>hsN.1 b hb) (λ_ _=>rfl)) pa (pe.mono (λb hb=>hsN.1 b hb) (λ_ _=>rfl)) (.inl ⟨O,O⟩) (.inl ⟨O,O⟩) (.inl ⟨O,O⟩) (.inl ⟨O,O⟩) (.inl ⟨O,O⟩) (pf.mono (λb hb=>hsN.1 b hb) (λ_ _=>rfl)) pb) (Bj.mk (x:=(⟨0,([(⟨100,150⟩:AF)]:List AF),[],[]⟩:Aq)) pc (pg.mono (λb hb=>hsN.1 b hb) (λ_ _=>rfl)) (.inl ⟨O,O⟩) (.inl ⟨O,O⟩)) a7) λcay caz ca0 xr ca1 dh p=>?_
        obtain⟨rfl,xs⟩:=p
        exact AD ⟨dh.siz,λb hb=>dh.same b hb⟩ O
       refine AQ.cons O ?_ ?_
       ·
        intro mq hh o
        intro ph pi ca2 pj
        have hsN:=o.st c
        obtain rfl:ph= .bool true:=Eq.trans pi (congrArg Value.bool H)
        cases pj
        exact LF.q 1 (QF.pick O O O (AE (AD (Ap.refl _) O)))
       refine AQ.cons O ?_ ?_
       ·
        intro mq hh o
        intro ca3 pk
        have hsN:=o.st c
        cases pk
        exact LF.q 1 (QF.mv O O (AE (AD (Ap.refl _) O)))
       refine AQ.cons O ?_ ?_
       ·
        intro mq hh o
        intro pl pm
        have hsN:=o.st c
        obtain rfl:pl= .bool true:=Eq.trans pm (congrArg Value.bool J)
        refine⟨82,O,.inl ⟨O,?_⟩⟩
        exact LF.q 1 (QF.ldo (vs:=[.int .i64 0,(.slice (some ⟨Z,0,none⟩) 1 1),.slice none 0 0,.slice none 0 0]) Aa hsN O (mt (mt (mt (mt mh)))) O O Zx O O (AE (AD (Ap.refl _) ⟨O,(iq (n:=0) O)⟩)))
       refine AQ.cons O ?_ ?_
       ·
        intro mq hh o
        intro ca4 pn po pp
        have hsN:=SN.st c o
        obtain⟨rfl,pq⟩:=pn
        obtain rfl:po= .bool true:=Eq.trans pp (congrArg Value.bool J)
        refine⟨82,O,.inl ⟨O,?_⟩⟩
        have en:=u.trans (y.trans (z.trans (j.trans (g.trans (s.trans (k.trans (d.trans (SN.ext c.1 o))))))))
        have pr:=ay.mono' en
        refine LF.callb O O O Nv O hsN (Fh (St.all _) (Bj.mk (x:=(⟨0,([(⟨100,150⟩:AF)]:List AF),[],[]⟩:Aq)) pq (pr.mono (λb hb=>hsN.1 b hb) (λ_ _=>rfl)) (.inl ⟨O,O⟩) (.inl ⟨O,O⟩)) a8) λca5 ca6 ca7 xt ca8 di p=>?_
        obtain⟨rfl,ps,xu⟩:=p
        exact AD ⟨di.siz,λb hb=>di.same b hb⟩ ⟨O,ps⟩
       refine AQ.cons O ?_ ?_
       ·
        intro mq hh o
        intro ca9 pt pu pv
        have hsN:=o.st c
        obtain⟨rfl,daa⟩:=pt
        obtain rfl:pu= .bool true:=Eq.trans pv (congrArg Value.bool J)
        refine⟨82,O,.inl ⟨O,?_⟩⟩
        exact LF.q 1 (QF.eql O O O (AE (AD (Ap.refl _) O)))
       refine AQ.cons O ?_ ?_
       ·
        intro mq hh o
        intro pw px dab py
        have hsN:=o.st c
        obtain rfl:pw= .bool true:=Eq.trans px (congrArg Value.bool J)
        cases py
        exact LF.q 1 (QF.pick O O O (AE (AD (Ap.refl _) O)))
       refine AQ.cons O ?_ ?_
       ·
        intro mq hh o
        intro dac pz
        have hsN:=o.st c
        cases pz
        exact LF.q 1 (QF.mv O O (AE (AD (Ap.refl _) O)))
       refine AQ.cons O ?_ ?_
       ·
        intro mq hh o
        intro p0 p1
        have hsN:=o.st c
        obtain rfl:p0= .bool false:=Eq.trans p1 (congrArg Value.bool K)
        exact⟨87,O,.inr ⟨_,O,(by simp [yb,undef]),O⟩⟩
       refine AQ.cons O ?_ ?_
       ·
        intro mq hh o
        intro p2 p3
        have hsN:=o.st c
        obtain rfl:p2= .bool false:=Eq.trans p3 (congrArg Value.bool K)
        exact⟨87,O,.inr ⟨_,O,(by simp [yb,undef]),O⟩⟩
       refine AQ.cons O ?_ ?_
       ·
        intro mq hh o
        intro p4 p5
        have hsN:=o.st c
        obtain rfl:p4= .bool false:=Eq.trans p5 (congrArg Value.bool K)
        exact⟨87,O,.inr ⟨_,O,(by simp [yb,undef]),O⟩⟩
       refine AQ.cons O ?_ ?_
       ·
        intro mq hh o
        intro p6 p7
        have hsN:=SN.st c o
        obtain rfl:p6= .bool false:=Eq.trans p7 (congrArg Value.bool K)
        exact⟨87,O,.inr ⟨_,O,(by simp [yb,undef]),O⟩⟩
       refine AQ.cons O ?_ ?_
       ·
        intro mq hh o
        intro p8 p9 dad qa
        have hsN:=o.st c
        obtain rfl:p8= .bool false:=Eq.trans p9 (congrArg Value.bool K)
        cases qa
        exact LF.q 1 (QF.pick O O O (AE (AD (Ap.refl _) O)))
       refine AQ.cons O ?_ ?_
       ·
        intro mq hh o
        intro dae qb
        have hsN:=o.st c
        cases qb
        exact LF.q 1 (QF.mv O O (AE (AD (Ap.refl _) O)))
       refine AQ.cons O ?_ ?_
       ·
        intro mq hh o
        intro daf qc
        have hsN:=o.st c
        cases qc
        exact⟨93,O,.inr ⟨_,O,(by simp [yb,undef]),O⟩⟩
       refine AQ.cons O ?_ ?_
       ·
        intro mq hh o
        intro dag qd
        have hsN:=o.st c
        cases qd
        exact⟨93,O,.inr ⟨_,O,(by simp [yb,undef]),O⟩⟩
       refine AQ.cons O ?_ ?_
       ·
        intro mq hh o
        intro dah qe
        have hsN:=SN.st c o
        cases qe
        exact⟨93,O,.inr ⟨_,O,(by simp [yb,undef]),O⟩⟩
       refine AQ.cons O ?_ ?_
       ·
        intro mq hh o
        intro dai qf
        have hsN:=SN.st c o
        cases qf
        exact⟨93,O,.inr ⟨_,O,(by simp [yb,undef]),O⟩⟩
       refine AQ.cons O ?_ ?_
       ·
        intro mq hh o
        intro daj qg
        have hsN:=o.st c
        cases qg
        exact⟨93,O,.inr ⟨_,O,(by simp [yb,undef]),O⟩⟩
       refine AQ.cons O ?_ ?_
       ·
        intro mq hh o
        intro dak qh dal qi
        have hsN:=o.st c
        cases qh
        cases qi
        exact LF.q 1 (QF.pick O O O (AE (AD (Ap.refl _) O)))
       refine AQ.cons O ?_ ?_
       ·
        intro mq hh o
        intro dam qj
        have hsN:=o.st c
        cases qj
        exact LF.q 1 (QF.mv O O (AE (AD (Ap.refl _) O)))
       refine AQ.cons O ?_ ?_
       ·
        intro mq hh o
        intro dan qk
        have hsN:=o.st c
        cases qk
        exact⟨100,O,.inr ⟨_,O,(by simp [yb,undef]),O⟩⟩
       refine AQ.cons O ?_ ?_
       ·
        intro mq hh o
        intro dao ql
        have hsN:=o.st c
        cases ql
        exact⟨100,O,.inr ⟨_,O,(by simp [yb,undef]),O⟩⟩
       refine AQ.cons O ?_ ?_
       ·
        intro mq hh o
        intro dap qm
        have hsN:=o.st c
        cases qm
        exact⟨100,O,.inr ⟨_,O,(by simp [yb,undef]),O⟩⟩
       refine AQ.cons O ?_ ?_
       ·
        intro mq hh o
        intro daq qn
        have hsN:=SN.st c o
        cases qn
        exact⟨100,O,.inr ⟨_,O,(by simp [yb,undef]),O⟩⟩
       refine AQ.cons O ?_ ?_
       ·
        intro mq hh o
        intro dar qo
        have hsN:=o.st c
        cases qo
        exact⟨100,O,.inr ⟨_,O,(by simp [yb,undef]),O⟩⟩
       refine AQ.cons O ?_ ?_
       ·
        intro mq hh o
        intro das qp
        have hsN:=SN.st c o
        cases qp
        exact⟨100,O,.inr ⟨_,O,(by simp [yb,undef]),O⟩⟩
       refine AQ.cons O ?_ ?_
       ·
        intro mq hh o
        intro dat qq dau qr
        have hsN:=o.st c
        cases qq
        cases qr
        exact LF.q 1 (QF.pick O O O (AE (AD (Ap.refl _) O)))
       refine AQ.cons O ?_ ?_
       ·
        intro mq hh o
        intro dav qs
        have hsN:=o.st c
        cases qs
        exact LF.q 1 (QF.as_ O O (AE (AD (Ap.refl _) O)))
       exact trivial
      intro daw dj dax qt
      have eo:=SN.st c dj
      cases qt
      exact LF.nil (kp [0] O) (WF.nil (λaa ww hf hw=>⟨_,_,hf.sub (kp [0] O),hw,eo,(SN.ext c.1 dj),trivial⟩))
     ·
      have am:=Av K am
      obtain⟨ar,bb,am⟩:=bd am
      have qu:=Option.some.inj am
      subst qu
      rcases YP ar with Q|Q
      ·
       have ab:=Aw Q ab
       have qv:=Option.some.inj ab
       subst qv
       have qw:=Option.some.inj X
       subst qw
       refine Iy (m:=[(8,.bool ((I&&(decide (t.1.Hour=1)))&&(decide ((↑t.1.Queue.length:Int)=0)))),(7,.pointer (some ⟨a5,0,none⟩)),(3,.pointer (some ⟨ba,0,none⟩)),(2,.pointer (some ⟨a9,0,none⟩))]) 33 (λi v hh=>match i with|0=>v= .bool ((I&&(decide (t.1.Hour=1)))&&(decide ((↑t.1.Queue.length:Int)=0)))|1=>v= .bool ((I&&(decide (t.1.Hour=1)))&&(decide ((↑t.1.Queue.length:Int)=0)))|2=>v= .agg #[.string (ByteArray.mk #[98]),(.slice (some ⟨U,0,none⟩) 1 1),.int .i64 0,(.slice (some ⟨V,0,none⟩) 1 1),.slice none 0 0,.slice none 0 0,.slice none 0 0,.slice none 0 0,.slice none 0 0,(.slice (some ⟨W,0,none⟩) 3 3),.int .i64 0]∧(ByteArray.mk #[98]).size≤maxLen∧AB 0∧AB 0|3=>v= .agg #[.int .i64 0,(.slice (some ⟨Z,0,none⟩) 1 1),.slice none 0 0,.slice none 0 0]∧AB 0|4=>v= .bool aj|5=>v= .bool aj|6=>v= .bool aj|7=>v= .agg #[.int .i64 0,(.slice (some ⟨Z,0,none⟩) 1 1),.slice none 0 0,.slice none 0 0]∧AB 0|8=>v= .int .i64 M∧AB M|9=>v= .bool (decide (M=50))|10=>v= .bool (decide (M=50))|11=>v= .bool (decide (M=50))|12=>v= .agg #[.string (ByteArray.mk #[98]),(.slice (some ⟨U,0,none⟩) 1 1),.int .i64 0,(.slice (some ⟨V,0,none⟩) 1 1),.slice none 0 0,.slice none 0 0,.slice none 0 0,.slice none 0 0,.slice none 0 0,(.slice (some ⟨W,0,none⟩) 3 3),.int .i64 0]∧(ByteArray.mk #[98]).size≤maxLen∧AB 0∧AB 0|13=>v= .agg #[.int .i64 0,(.slice (some ⟨Z,0,none⟩) 1 1),.slice none 0 0,.slice none 0 0]∧AB 0|14=>v= .agg #[.int .i64 A.Hour,ac,ad,ae,af,ag,ah]∧AB A.Hour|15=>v= .bool ar|16=>v= .bool ar|17=>v= .bool ar|18=>v=undef|19=>v=undef|20=>v=undef|21=>v=undef|22=>v=undef|23=>v= .bool false|24=>v= .bool false|25=>v=undef|26=>v=undef|27=>v=undef|28=>v=undef|29=>v=undef|30=>v=undef|31=>v= .bool false|32=>v= .bool false|_=>False) [[],[(0,76)],[(1,77)],[(1,77)],[(2,78),(3,79),(1,77)],[(1,77),(4,80)],[(5,81)],[(6,82)],[(7,83),(6,82)],[(8,84),(6,82)],[(6,82),(9,85)],[(10,86)],[(11,87)],[(11,87)],[(11,87)],[(12,88),(13,89),(14,90),(11,87)],[(11,87),(15,91)],[(16,92)],[(17,93)],[(17,93)],[(17,93)],[(17,93)],[(17,93)],[(17,93),(22,98)],[(23,99)],[(24,100)],[(24,100)],[(24,100)],[(24,100)],[(24,100)],[(24,100)],[(24,100),(30,106)],[(31,107)]] [(32,0)] mo (by kernel_rfl) [8,7,3,2] O (by kernel_rfl) (by kernel_rfl) (by kernel_rfl) (kp [8,7,3,2] O) (λi v h1 h2 o1 o2 hr=>?_) ?_ ?_
       ·match i,hr with
         |0,hr=>exact hr
         |1,hr=>exact hr
         |2,hr=>exact hr
         |3,hr=>exact hr
         |4,hr=>exact hr
         |5,hr=>exact hr
         |6,hr=>exact hr
         |7,hr=>exact hr
         |8,hr=>exact hr
         |9,hr=>exact hr
         |10,hr=>exact hr
         |11,hr=>exact hr
         |12,hr=>exact hr
         |13,hr=>exact hr
         |14,hr=>exact hr
         |15,hr=>exact hr
         |16,hr=>exact hr
         |17,hr=>exact hr
         |18,hr=>exact hr
         |19,hr=>exact hr
         |20,hr=>exact hr
         |21,hr=>exact hr
         |22,hr=>exact hr
         |23,hr=>exact hr
         |24,hr=>exact hr
         |25,hr=>exact hr
         |26,hr=>exact hr
         |27,hr=>exact hr
         |28,hr=>exact hr
         |29,hr=>exact hr
         |30,hr=>exact hr
         |31,hr=>exact hr
         |32,hr=>exact hr
         |_+33,hr=>exact hr.elim
       ·
        refine AQ.cons O ?_ ?_
        ·
         intro mq hh o
         have hsN:=o.st c
         exact LF.q 1 (QF.mv O O (AE (AD (Ap.refl _) O)))
        refine AQ.cons O ?_ ?_
        ·
         intro mq hh o
         intro day qx
         have hsN:=o.st c
         cases qx
         exact LF.q 1 (QF.mv O O (AE (AD (Ap.refl _) O)))
        refine AQ.cons O ?_ ?_
        ·
         intro mq hh o
         intro qy q0
         have hsN:=o.st c
         obtain rfl:qy= .bool true:=Eq.trans q0 (congrArg Value.bool H)
         refine⟨77,O,.inl ⟨O,?_⟩⟩
         exact LF.q 1 (QF.ldo (vs:=[.string (ByteArray.mk #[98]),(.slice (some ⟨U,0,none⟩) 1 1),.int .i64 0,(.slice (some ⟨V,0,none⟩) 1 1),.slice none 0 0,.slice none 0 0,.slice none 0 0,.slice none 0 0,.slice none 0 0,(.slice (some ⟨W,0,none⟩) 3 3),.int .i64 0]) Aa hsN O (mt (mt (mt (mt (mt mh))))) O O D1 O O (AE (AD (Ap.refl _) ⟨O,(by decide),(iq (n:=0) O),(iq (n:=0) O)⟩)))
        refine AQ.cons O ?_ ?_
        ·
         intro mq hh o
         intro q1 q2
         have hsN:=o.st c
         obtain rfl:q1= .bool true:=Eq.trans q2 (congrArg Value.bool H)
         refine⟨77,O,.inl ⟨O,?_⟩⟩
         exact LF.q 1 (QF.ldo (vs:=[.int .i64 0,(.slice (some ⟨Z,0,none⟩) 1 1),.slice none 0 0,.slice none 0 0]) Aa hsN O (mt (mt (mt (mt mh)))) O O Zx O O (AE (AD (Ap.refl _) ⟨O,(iq (n:=0) O)⟩)))
        refine AQ.cons O ?_ ?_
        ·
         intro mq hh o
         intro daz q3 da0 q4 q5 q6
         have hsN:=SN.st c o
         obtain⟨rfl,q7,q8,q9⟩:=q3
         obtain⟨rfl,rb⟩:=q4
         obtain rfl:q5= .bool true:=Eq.trans q6 (congrArg Value.bool H)
         refine⟨77,O,.inl ⟨O,?_⟩⟩
         have ep:=au.trans (Y.trans (C.trans (D.trans (F.trans (G.trans (u.trans (y.trans (z.trans (j.trans (g.trans (s.trans (k.trans (d.trans (SN.ext c.1 o))))))))))))))
         have rd:=av.mono' ep
         have eq:=Y.trans (C.trans (D.trans (F.trans (G.trans (u.trans (y.trans (z.trans (j.trans (g.trans (s.trans (k.trans (d.trans (SN.ext c.1 o)))))))))))))
         have re:=aw.mono' eq
         have er:=C.trans (D.trans (F.trans (G.trans (u.trans (y.trans (z.trans (j.trans (g.trans (s.trans (k.trans (d.trans (SN.ext c.1 o))))))))))))
         have rf:=ax.mono' er
         have es:=u.trans (y.trans (z.trans (j.trans (g.trans (s.trans (k.trans (d.trans (SN.ext c.1 o))))))))
         have rg:=ay.mono' es
         refine LF.callb O O O OT O hsN (Ft (St.all _) (A3.mk (x:=(⟨(ByteArray.mk #[98]),([(ByteArray.mk #[97])]:List ByteArray),0,B3,[],[],[],[],[],([0,0,0]:List Int),0⟩:AJ)) q7 (rd.mono (λb hb=>hsN.1 b hb) (λ_ _=>rfl)) q8 (re.mono (λb hb=>hsN.1 b hb) (λ_ _=>rfl)) (.inl ⟨O,O⟩) (.inl ⟨O,O⟩) (.inl ⟨O,O⟩) (.inl ⟨O,O⟩) (.inl ⟨O,O⟩) (rf.mono (λb hb=>hsN.1 b hb) (λ_ _=>rfl)) q9) (Bj.mk (x:=(⟨0,([(⟨100,150⟩:AF)]:List AF),[],[]⟩:Aq)) rb (rg.mono (λb hb=>hsN.1 b hb) (λ_ _=>rfl)) (.inl ⟨O,O⟩) (.inl ⟨O,O⟩)) a7) λda1 da2 da3 xv da4 dk p=>?_
         obtain⟨rfl,xw⟩:=p
         exact AD ⟨dk.siz,λb hb=>dk.same b hb⟩ O
        refine AQ.cons O ?_ ?_
        ·
         intro mq hh o
         intro rh ri da5 rj
         have hsN:=o.st c
         obtain rfl:rh= .bool true:=Eq.trans ri (congrArg Value.bool H)
         cases rj
         exact LF.q 1 (QF.pick O O O (AE (AD (Ap.refl _) O)))
        refine AQ.cons O ?_ ?_
        ·
         intro mq hh o
         intro da6 rk
         have hsN:=o.st c
         cases rk
         exact LF.q 1 (QF.mv O O (AE (AD (Ap.refl _) O)))
        refine AQ.cons O ?_ ?_
        ·
         intro mq hh o
         intro rm rn
         have hsN:=o.st c
         obtain rfl:rm= .bool true:=Eq.trans rn (congrArg Value.bool J)
         refine⟨82,O,.inl ⟨O,?_⟩⟩
         exact LF.q 1 (QF.ldo (vs:=[.int .i64 0,(.slice (some ⟨Z,0,none⟩) 1 1),.slice none 0 0,.slice none 0 0]) Aa hsN O (mt (mt (mt (mt mh)))) O O Zx O O (AE (AD (Ap.refl _) ⟨O,(iq (n:=0) O)⟩)))
        refine AQ.cons O ?_ ?_
        ·
         intro mq hh o
         intro da7 ro rq rr
         have hsN:=SN.st c o
         obtain⟨rfl,rs⟩:=ro
         obtain rfl:rq= .bool true:=Eq.trans rr (congrArg Value.bool J)
         refine⟨82,O,.inl ⟨O,?_⟩⟩
         have et:=u.trans (y.trans (z.trans (j.trans (g.trans (s.trans (k.trans (d.trans (SN.ext c.1 o))))))))
         have rt:=ay.mono' et
         refine LF.callb O O O Nv O hsN (Fh (St.all _) (Bj.mk (x:=(⟨0,([(⟨100,150⟩:AF)]:List AF),[],[]⟩:Aq)) rs (rt.mono (λb hb=>hsN.1 b hb) (λ_ _=>rfl)) (.inl ⟨O,O⟩) (.inl ⟨O,O⟩)) a8) λda8 da9 eaa xx eab dl p=>?_
         obtain⟨rfl,ru,xy⟩:=p
         exact AD ⟨dl.siz,λb hb=>dl.same b hb⟩ ⟨O,ru⟩
        refine AQ.cons O ?_ ?_
        ·
         intro mq hh o
         intro eac rv rx ry
         have hsN:=o.st c
         obtain⟨rfl,ead⟩:=rv
         obtain rfl:rx= .bool true:=Eq.trans ry (congrArg Value.bool J)
         refine⟨82,O,.inl ⟨O,?_⟩⟩
         exact LF.q 1 (QF.eql O O O (AE (AD (Ap.refl _) O)))
        refine AQ.cons O ?_ ?_
        ·
         intro mq hh o
         intro rz r0 eae r1
         have hsN:=o.st c
         obtain rfl:rz= .bool true:=Eq.trans r0 (congrArg Value.bool J)
         cases r1
         exact LF.q 1 (QF.pick O O O (AE (AD (Ap.refl _) O)))
        refine AQ.cons O ?_ ?_
        ·
         intro mq hh o
         intro eaf r2
         have hsN:=o.st c
         cases r2
         exact LF.q 1 (QF.mv O O (AE (AD (Ap.refl _) O)))
        refine AQ.cons O ?_ ?_
        ·
         intro mq hh o
         intro r3 r4
         have hsN:=o.st c
         obtain rfl:r3= .bool true:=Eq.trans r4 (congrArg Value.bool K)
         refine⟨87,O,.inl ⟨O,?_⟩⟩
         exact LF.q 1 (QF.ldo (vs:=[.string (ByteArray.mk #[98]),(.slice (some ⟨U,0,none⟩) 1 1),.int .i64 0,(.slice (some ⟨V,0,none⟩) 1 1),.slice none 0 0,.slice none 0 0,.slice none 0 0,.slice none 0 0,.slice none 0 0,(.slice (some ⟨W,0,none⟩) 3 3),.int .i64 0]) Aa hsN O (mt (mt (mt (mt (mt mh))))) O O D1 O O (AE (AD (Ap.refl _) ⟨O,(by decide),(iq (n:=0) O),(iq (n:=0) O)⟩)))
        refine AQ.cons O ?_ ?_
        ·
         intro mq hh o
         intro r5 r6
         have hsN:=o.st c
         obtain rfl:r5= .bool true:=Eq.trans r6 (congrArg Value.bool K)
         refine⟨87,O,.inl ⟨O,?_⟩⟩
         exact LF.q 1 (QF.ldo (vs:=[.int .i64 0,(.slice (some ⟨Z,0,none⟩) 1 1),.slice none 0 0,.slice none 0 0]) Aa hsN O (mt (mt (mt (mt mh)))) O O Zx O O (AE (AD (Ap.refl _) ⟨O,(iq (n:=0) O)⟩)))
        refine AQ.cons O ?_ ?_
        ·
         intro mq hh o
         intro r7 r8
         have hsN:=o.st c
         obtain rfl:r7= .bool true:=Eq.trans r8 (congrArg Value.bool K)
         refine⟨87,O,.inl ⟨O,?_⟩⟩
         exact LF.q 1 (QF.ldo (vs:=[.int .i64 A.Hour,ac,ad,ae,af,ag,ah]) Aa hsN O mh O O G6 O O (AE (AD (Ap.refl _) ⟨O,a6⟩)))
        refine AQ.cons O ?_ ?_
        ·
         intro mq hh o
         intro eag r9 eah sa eai sc sd se
         have hsN:=SN.st c o
         obtain⟨rfl,sf,sg,sh⟩:=r9
         obtain⟨rfl,si⟩:=sa
         obtain⟨rfl,sj⟩:=sc
         obtain rfl:sd= .bool true:=Eq.trans se (congrArg Value.bool K)
         refine⟨87,O,.inl ⟨O,?_⟩⟩
         have eu:=au.trans (Y.trans (C.trans (D.trans (F.trans (G.trans (u.trans (y.trans (z.trans (j.trans (g.trans (s.trans (k.trans (d.trans (SN.ext c.1 o))))))))))))))
         have sk:=av.mono' eu
         have ev:=Y.trans (C.trans (D.trans (F.trans (G.trans (u.trans (y.trans (z.trans (j.trans (g.trans (s.trans (k.trans (d.trans (SN.ext c.1 o)))))))))))))
         have sl:=aw.mono' ev
         have ew:=C.trans (D.trans (F.trans (G.trans (u.trans (y.trans (z.trans (j.trans (g.trans (s.trans (k.trans (d.trans (SN.ext c.1 o))))))))))))
         have sm:=ax.mono' ew
         have ey:=u.trans (y.trans (z.trans (j.trans (g.trans (s.trans (k.trans (d.trans (SN.ext c.1 o))))))))
         have sn:=ay.mono' ey
         have so:=az.mono' (d.trans (SN.ext c.1 o))
         have sp:=a0.mono' (d.trans (SN.ext c.1 o))
         have sq:=a1.mono' (d.trans (SN.ext c.1 o))
         have sr:=a2.mono' (d.trans (SN.ext c.1 o))
         have ss:=a3.mono' (d.trans (SN.ext c.1 o))
         have su:=a4.mono' (d.trans (SN.ext c.1 o))
         refine LF.callb O O O OR O hsN (Gr (St.all _) (A3.mk (x:=(⟨(ByteArray.mk #[98]),([(ByteArray.mk #[97])]:List ByteArray),0,B3,[],[],[],[],[],([0,0,0]:List Int),0⟩:AJ)) sf (sk.mono (λb hb=>hsN.1 b hb) (λ_ _=>rfl)) sg (sl.mono (λb hb=>hsN.1 b hb) (λ_ _=>rfl)) (.inl ⟨O,O⟩) (.inl ⟨O,O⟩) (.inl ⟨O,O⟩) (.inl ⟨O,O⟩) (.inl ⟨O,O⟩) (sm.mono (λb hb=>hsN.1 b hb) (λ_ _=>rfl)) sh) (Bj.mk (x:=(⟨0,([(⟨100,150⟩:AF)]:List AF),[],[]⟩:Aq)) si (sn.mono (λb hb=>hsN.1 b hb) (λ_ _=>rfl)) (.inl ⟨O,O⟩) (.inl ⟨O,O⟩)) (CA.mk (x:=A) sj (so.mono (λb hb=>hsN.1 b hb) (λ_ _=>rfl)) (sp.mono (λb hb=>hsN.1 b hb) (λ_ _=>rfl)) (sq.mono (λb hb=>hsN.1 b hb) (λ_ _=>rfl)) (sr.mono (λb hb=>hsN.1 b hb) (λ_ _=>rfl)) (ss.mono (λb hb=>hsN.1 b hb) (λ_ _=>rfl)) (su.mono (λb hb=>hsN.1 b hb) (λ_ _=>rfl))) bb) λeaj eak eal xz eam dm p=>?_
         obtain⟨rfl,x0⟩:=p
         exact AD ⟨dm.siz,λb hb=>dm.same b hb⟩ O
        refine AQ.cons O ?_ ?_
        ·
         intro mq hh o
         intro sv sw ean sx
         have hsN:=o.st c
         obtain rfl:sv= .bool true:=Eq.trans sw (congrArg Value.bool K)
         cases sx
         exact LF.q 1 (QF.pick O O O (AE (AD (Ap.refl _) O)))
        refine AQ.cons O ?_ ?_
        ·
         intro mq hh o
         intro eao sy
         have hsN:=o.st c
         cases sy
         exact LF.q 1 (QF.mv O O (AE (AD (Ap.refl _) O)))
        refine AQ.cons O ?_ ?_
        ·
         intro mq hh o
         intro sz s0
         have hsN:=o.st c
         obtain rfl:sz= .bool false:=Eq.trans s0 (congrArg Value.bool Q)
         exact⟨93,O,.inr ⟨_,O,(by simp [yb,undef]),O⟩⟩
        refine AQ.cons O ?_ ?_
        ·
         intro mq hh o
         intro s1 s2
         have hsN:=o.st c
         obtain rfl:s1= .bool false:=Eq.trans s2 (congrArg Value.bool Q)
         exact⟨93,O,.inr ⟨_,O,(by simp [yb,undef]),O⟩⟩
        refine AQ.cons O ?_ ?_
        ·
         intro mq hh o
         intro s3 s4
         have hsN:=SN.st c o
         obtain rfl:s3= .bool false:=Eq.trans s4 (congrArg Value.bool Q)
         exact⟨93,O,.inr ⟨_,O,(by simp [yb,undef]),O⟩⟩
        refine AQ.cons O ?_ ?_
        ·
         intro mq hh o
         intro s5 s6
         have hsN:=SN.st c o
         obtain rfl:s5= .bool false:=Eq.trans s6 (congrArg Value.bool Q)
         exact⟨93,O,.inr ⟨_,O,(by simp [yb,undef]),O⟩⟩
        refine AQ.cons O ?_ ?_
        ·
         intro mq hh o
         intro s7 s8
         have hsN:=o.st c
         obtain rfl:s7= .bool false:=Eq.trans s8 (congrArg Value.bool Q)
         exact⟨93,O,.inr ⟨_,O,(by simp [yb,undef]),O⟩⟩
        refine AQ.cons O ?_ ?_
        ·
         intro mq hh o
         intro s9 ta eap tb
         have hsN:=o.st c
         obtain rfl:s9= .bool false:=Eq.trans ta (congrArg Value.bool Q)
         cases tb
         exact LF.q 1 (QF.pick O O O (AE (AD (Ap.refl _) O)))
        refine AQ.cons O ?_ ?_
        ·
         intro mq hh o
         intro eaq tc
         have hsN:=o.st c
         cases tc
         exact LF.q 1 (QF.mv O O (AE (AD (Ap.refl _) O)))
        refine AQ.cons O ?_ ?_
        ·
         intro mq hh o
         intro ear td
         have hsN:=o.st c
         cases td
         exact⟨100,O,.inr ⟨_,O,(by simp [yb,undef]),O⟩⟩
        refine AQ.cons O ?_ ?_
        ·
         intro mq hh o
         intro eas te
         have hsN:=o.st c
         cases te
         exact⟨100,O,.inr ⟨_,O,(by simp [yb,undef]),O⟩⟩
        refine AQ.cons O ?_ ?_
        ·
         intro mq hh o
         intro eat tf
         have hsN:=o.st c
         cases tf
         exact⟨100,O,.inr ⟨_,O,(by simp [yb,undef]),O⟩⟩
        refine AQ.cons O ?_ ?_
        ·
         intro mq hh o
         intro eau tg
         have hsN:=SN.st c o
         cases tg
         exact⟨100,O,.inr ⟨_,O,(by simp [yb,undef]),O⟩⟩
        refine AQ.cons O ?_ ?_
        ·
         intro mq hh o
         intro eav th
         have hsN:=o.st c
         cases th
         exact⟨100,O,.inr ⟨_,O,(by simp [yb,undef]),O⟩⟩
        refine AQ.cons O ?_ ?_
        ·
         intro mq hh o
         intro eaw ti
         have hsN:=SN.st c o
         cases ti
         exact⟨100,O,.inr ⟨_,O,(by simp [yb,undef]),O⟩⟩
        refine AQ.cons O ?_ ?_
        ·
         intro mq hh o
         intro eax tj eay tk
         have hsN:=o.st c
         cases tj
         cases tk
         exact LF.q 1 (QF.pick O O O (AE (AD (Ap.refl _) O)))
        refine AQ.cons O ?_ ?_
        ·
         intro mq hh o
         intro eaz tl
         have hsN:=o.st c
         cases tl
         exact LF.q 1 (QF.as_ O O (AE (AD (Ap.refl _) O)))
        exact trivial
       intro ea0 dn ea1 tm
       have ez:=SN.st c dn
       cases tm
       exact LF.nil (kp [0] O) (WF.nil (λaa ww hf hw=>⟨_,_,hf.sub (kp [0] O),hw,ez,(SN.ext c.1 dn),trivial⟩))
      ·
       have ab:=Av Q ab
       obtain⟨bi,bt,ab⟩:=bd ab
       obtain⟨aq,bu,ab⟩:=bd ab
       have tn:=Option.some.inj ab
       subst tn
       rcases YP (decide (aq=0)) with ai|ai
       ·
        have X:=Aw ai X
        have tp:=Option.some.inj X
        subst tp
        refine Iy (m:=[(8,.bool ((I&&(decide (t.1.Hour=1)))&&(decide ((↑t.1.Queue.length:Int)=0)))),(7,.pointer (some ⟨a5,0,none⟩)),(3,.pointer (some ⟨ba,0,none⟩)),(2,.pointer (some ⟨a9,0,none⟩))]) 33 (λi v hh=>match i with|0=>v= .bool ((I&&(decide (t.1.Hour=1)))&&(decide ((↑t.1.Queue.length:Int)=0)))|1=>v= .bool ((I&&(decide (t.1.Hour=1)))&&(decide ((↑t.1.Queue.length:Int)=0)))|2=>v= .agg #[.string (ByteArray.mk #[98]),(.slice (some ⟨U,0,none⟩) 1 1),.int .i64 0,(.slice (some ⟨V,0,none⟩) 1 1),.slice none 0 0,.slice none 0 0,.slice none 0 0,.slice none 0 0,.slice none 0 0,(.slice (some ⟨W,0,none⟩) 3 3),.int .i64 0]∧(ByteArray.mk #[98]).size≤maxLen∧AB 0∧AB 0|3=>v= .agg #[.int .i64 0,(.slice (some ⟨Z,0,none⟩) 1 1),.slice none 0 0,.slice none 0 0]∧AB 0|4=>v= .bool aj|5=>v= .bool aj|6=>v= .bool aj|7=>v= .agg #[.int .i64 0,(.slice (some ⟨Z,0,none⟩) 1 1),.slice none 0 0,.slice none 0 0]∧AB 0|8=>v= .int .i64 M∧AB M|9=>v= .bool (decide (M=50))|10=>v= .bool (decide (M=50))|11=>v= .bool (decide (M=50))|12=>v= .agg #[.string (ByteArray.mk #[98]),(.slice (some ⟨U,0,none⟩) 1 1),.int .i64 0,(.slice (some ⟨V,0,none⟩) 1 1),.slice none 0 0,.slice none 0 0,.slice none 0 0,.slice none 0 0,.slice none 0 0,(.slice (some ⟨W,0,none⟩) 3 3),.int .i64 0]∧(ByteArray.mk #[98]).size≤maxLen∧AB 0∧AB 0|13=>v= .agg #[.int .i64 0,(.slice (some ⟨Z,0,none⟩) 1 1),.slice none 0 0,.slice none 0 0]∧AB 0|14=>v= .agg #[.int .i64 A.Hour,ac,ad,ae,af,ag,ah]∧AB A.Hour|15=>v= .bool ar|16=>v= .bool ar|17=>v= .bool ar|18=>v= .agg #[.string (ByteArray.mk #[98]),(.slice (some ⟨U,0,none⟩) 1 1),.int .i64 0,(.slice (some ⟨V,0,none⟩) 1 1),.slice none 0 0,.slice none 0 0,.slice none 0 0,.slice none 0 0,.slice none 0 0,(.slice (some ⟨W,0,none⟩) 3 3),.int .i64 0]∧(ByteArray.mk #[98]).size≤maxLen∧AB 0∧AB 0|19=>v= .agg #[.int .i64 A.Hour,ac,ad,ae,af,ag,ah]∧AB A.Hour|20=>Rd (SN bg bh hh) hh Bj v bi|21=>v= .int .i64 aq∧AB aq|22=>v= .bool (decide (aq=0))|23=>v= .bool (decide (aq=0))|24=>v= .bool (decide (aq=0))|25=>v=undef|26=>v=undef|27=>v=undef|28=>v=undef|29=>v=undef|30=>v=undef|31=>v= .bool false|32=>v= .bool false|_=>False) [[],[(0,76)],[(1,77)],[(1,77)],[(2,78),(3,79),(1,77)],[(1,77),(4,80)],[(5,81)],[(6,82)],[(7,83),(6,82)],[(8,84),(6,82)],[(6,82),(9,85)],[(10,86)],[(11,87)],[(11,87)],[(11,87)],[(12,88),(13,89),(14,90),(11,87)],[(11,87),(15,91)],[(16,92)],[(17,93)],[(17,93)],[(18,94),(19,95),(17,93)],[(20,96),(17,93)],[(21,97),(17,93)],[(17,93),(22,98)],[(23,99)],[(24,100)],[(24,100)],[(24,100)],[(24,100)],[(24,100)],[(24,100)],[(24,100),(30,106)],[(31,107)]] [(32,0)] mo (by kernel_rfl) [8,7,3,2] O (by kernel_rfl) (by kernel_rfl) (by kernel_rfl) (kp [8,7,3,2] O) (λi v h1 h2 o1 o2 hr=>?_) ?_ ?_
        ·match i,hr with
          |0,hr=>exact hr
          |1,hr=>exact hr
          |2,hr=>exact hr
          |3,hr=>exact hr
          |4,hr=>exact hr
          |5,hr=>exact hr
          |6,hr=>exact hr
          |7,hr=>exact hr
          |8,hr=>exact hr
          |9,hr=>exact hr
          |10,hr=>exact hr
          |11,hr=>exact hr
          |12,hr=>exact hr
          |13,hr=>exact hr
          |14,hr=>exact hr
          |15,hr=>exact hr
          |16,hr=>exact hr
          |17,hr=>exact hr
          |18,hr=>exact hr
          |19,hr=>exact hr
          |20,hr=>exact Rd.mono hr (SN.mono c.1 o1 o2)
          |21,hr=>exact hr
          |22,hr=>exact hr
          |23,hr=>exact hr
          |24,hr=>exact hr
          |25,hr=>exact hr
          |26,hr=>exact hr
          |27,hr=>exact hr
          |28,hr=>exact hr
          |29,hr=>exact hr
          |30,hr=>exact hr
          |31,hr=>exact hr
          |32,hr=>exact hr
          |_+33,hr=>exact hr.elim
        ·
         refine AQ.cons O ?_ ?_
         ·
          intro mq hh o
          have hsN:=o.st c
          exact LF.q 1 (QF.mv O O (AE (AD (Ap.refl _) O)))
         refine AQ.cons O ?_ ?_
         ·
          intro mq hh o
          intro ea2 tq
          have hsN:=o.st c
          cases tq
          exact LF.q 1 (QF.mv O O (AE (AD (Ap.refl _) O)))
         refine AQ.cons O ?_ ?_
         ·
          intro mq hh o
          intro tr ts
          have hsN:=o.st c
          obtain rfl:tr= .bool true:=Eq.trans ts (congrArg Value.bool H)
          refine⟨77,O,.inl ⟨O,?_⟩⟩
          exact LF.q 1 (QF.ldo (vs:=[.string (ByteArray.mk #[98]),(.slice (some ⟨U,0,none⟩) 1 1),.int .i64 0,(.slice (some ⟨V,0,none⟩) 1 1),.slice none 0 0,.slice none 0 0,.slice none 0 0,.slice none 0 0,.slice none 0 0,(.slice (some ⟨W,0,none⟩) 3 3),.int .i64 0]) Aa hsN O (mt (mt (mt (mt (mt mh))))) O O D1 O O (AE (AD (Ap.refl _) ⟨O,(by decide),(iq (n:=0) O),(iq (n:=0) O)⟩)))
         refine AQ.cons O ?_ ?_
         ·
          intro mq hh o
          intro tt tu
          have hsN:=o.st c
          obtain rfl:tt= .bool true:=Eq.trans tu (congrArg Value.bool H)
          refine⟨77,O,.inl ⟨O,?_⟩⟩
          exact LF.q 1 (QF.ldo (vs:=[.int .i64 0,(.slice (some ⟨Z,0,none⟩) 1 1),.slice none 0 0,.slice none 0 0]) Aa hsN O (mt (mt (mt (mt mh)))) O O Zx O O (AE (AD (Ap.refl _) ⟨O,(iq (n:=0) O)⟩)))
         refine AQ.cons O ?_ ?_
         ·
          intro mq hh o
          intro ea3 tv ea4 tw tx ty
          have hsN:=SN.st c o
          obtain⟨rfl,tz,t0,t1⟩:=tv
          obtain⟨rfl,t2⟩:=tw
          obtain rfl:tx= .bool true:=Eq.trans ty (congrArg Value.bool H)
          refine⟨77,O,.inl ⟨O,?_⟩⟩
          have e0:=au.trans (Y.trans (C.trans (D.trans (F.trans (G.trans (u.trans (y.trans (z.trans (j.trans (g.trans (s.trans (k.trans (d.trans (SN.ext c.1 o))))))))))))))
          have t3:=av.mono' e0
          have e1:=Y.trans (C.trans (D.trans (F.trans (G.trans (u.trans (y.trans (z.trans (j.trans (g.trans (s.trans (k.trans (d.trans (SN.ext c.1 o)))))))))))))
          have t4:=aw.mono' e1
          have e2:=C.trans (D.trans (F.trans (G.trans (u.trans (y.trans (z.trans (j.trans (g.trans (s.trans (k.trans (d.trans (SN.ext c.1 o))))))))))))
          have t5:=ax.mono' e2
          have e3:=u.trans (y.trans (z.trans (j.trans (g.trans (s.trans (k.trans (d.trans (SN.ext c.1 o))))))))
          have t6:=ay.mono' e3
          refine LF.callb O O O OT O hsN (Ft (St.all _) (A3.mk (x:=(⟨(ByteArray.mk #[98]),([(ByteArray.mk #[97])]:List ByteArray),0,B3,[],[],[],[],[],([0,0,0]:List Int),0⟩:AJ)) tz (t3.mono (λb hb=>hsN.1 b hb) (λ_ _=>rfl)) t0 (t4.mono (λb hb=>hsN.1 b hb) (λ_ _=>rfl)) (.inl ⟨O,O⟩) (.inl ⟨O,O⟩) (.inl ⟨O,O⟩) (.inl ⟨O,O⟩) (.inl ⟨O,O⟩) (t5.mono (λb hb=>hsN.1 b hb) (λ_ _=>rfl)) t1) (Bj.mk (x:=(⟨0,([(⟨100,150⟩:AF)]:List AF),[],[]⟩:Aq)) t2 (t6.mono (λb hb=>hsN.1 b hb) (λ_ _=>rfl)) (.inl ⟨O,O⟩) (.inl ⟨O,O⟩)) a7) λea5 ea6 ea7 x1 ea8 dp p=>?_
          obtain⟨rfl,x2⟩:=p
          exact AD ⟨dp.siz,λb hb=>dp.same b hb⟩ O
         refine AQ.cons O ?_ ?_
         ·
          intro mq hh o
          intro t7 t8 ea9 t9
          have hsN:=o.st c
          obtain rfl:t7= .bool true:=Eq.trans t8 (congrArg Value.bool H)
          cases t9
          exact LF.q 1 (QF.pick O O O (AE (AD (Ap.refl _) O)))
         refine AQ.cons O ?_ ?_
         ·
          intro mq hh o
          intro faa ua
          have hsN:=o.st c
          cases ua
          exact LF.q 1 (QF.mv O O (AE (AD (Ap.refl _) O)))
         refine AQ.cons O ?_ ?_
         ·
          intro mq hh o
          intro ub uc
          have hsN:=o.st c
          obtain rfl:ub= .bool true:=Eq.trans uc (congrArg Value.bool J)
          refine⟨82,O,.inl ⟨O,?_⟩⟩
          exact LF.q 1 (QF.ldo (vs:=[.int .i64 0,(.slice (some ⟨Z,0,none⟩) 1 1),.slice none 0 0,.slice none 0 0]) Aa hsN O (mt (mt (mt (mt mh)))) O O Zx O O (AE (AD (Ap.refl _) ⟨O,(iq (n:=0) O)⟩)))
         refine AQ.cons O ?_ ?_
         ·
          intro mq hh o
          intro fab ud ue uf
          have hsN:=SN.st c o
          obtain⟨rfl,ug⟩:=ud
          obtain rfl:ue= .bool true:=Eq.trans uf (congrArg Value.bool J)
          refine⟨82,O,.inl ⟨O,?_⟩⟩
          have e5:=u.trans (y.trans (z.trans (j.trans (g.trans (s.trans (k.trans (d.trans (SN.ext c.1 o))))))))
          have uh:=ay.mono' e5
          refine LF.callb O O O Nv O hsN (Fh (St.all _) (Bj.mk (x:=(⟨0,([(⟨100,150⟩:AF)]:List AF),[],[]⟩:Aq)) ug (uh.mono (λb hb=>hsN.1 b hb) (λ_ _=>rfl)) (.inl ⟨O,O⟩) (.inl ⟨O,O⟩)) a8) λfac fad faf x3 fag dq p=>?_
          obtain⟨rfl,ui,x4⟩:=p
          exact AD ⟨dq.siz,λb hb=>dq.same b hb⟩ ⟨O,ui⟩
         refine AQ.cons O ?_ ?_
         ·
          intro mq hh o
          intro fah uj uk ul
          have hsN:=o.st c
          obtain⟨rfl,fai⟩:=uj
          obtain rfl:uk= .bool true:=Eq.trans ul (congrArg Value.bool J)
          refine⟨82,O,.inl ⟨O,?_⟩⟩
          exact LF.q 1 (QF.eql O O O (AE (AD (Ap.refl _) O)))
         refine AQ.cons O ?_ ?_
         ·
          intro mq hh o
          intro um un faj uo
          have hsN:=o.st c
          obtain rfl:um= .bool true:=Eq.trans un (congrArg Value.bool J)
          cases uo
          exact LF.q 1 (QF.pick O O O (AE (AD (Ap.refl _) O)))
         refine AQ.cons O ?_ ?_
         ·
          intro mq hh o
          intro fak up
          have hsN:=o.st c
          cases up
          exact LF.q 1 (QF.mv O O (AE (AD (Ap.refl _) O)))
         refine AQ.cons O ?_ ?_
         ·
          intro mq hh o
          intro uq ur
          have hsN:=o.st c
          obtain rfl:uq= .bool true:=Eq.trans ur (congrArg Value.bool K)
          refine⟨87,O,.inl ⟨O,?_⟩⟩
          exact LF.q 1 (QF.ldo (vs:=[.string (ByteArray.mk #[98]),(.slice (some ⟨U,0,none⟩) 1 1),.int .i64 0,(.slice (some ⟨V,0,none⟩) 1 1),.slice none 0 0,.slice none 0 0,.slice none 0 0,.slice none 0 0,.slice none 0 0,(.slice (some ⟨W,0,none⟩) 3 3),.int .i64 0]) Aa hsN O (mt (mt (mt (mt (mt mh))))) O O D1 O O (AE (AD (Ap.refl _) ⟨O,(by decide),(iq (n:=0) O),(iq (n:=0) O)⟩)))
         refine AQ.cons O ?_ ?_
         ·
          intro mq hh o
          intro us ut
          have hsN:=o.st c
          obtain rfl:us= .bool true:=Eq.trans ut (congrArg Value.bool K)
          refine⟨87,O,.inl ⟨O,?_⟩⟩
          exact LF.q 1 (QF.ldo (vs:=[.int .i64 0,(.slice (some ⟨Z,0,none⟩) 1 1),.slice none 0 0,.slice none 0 0]) Aa hsN O (mt (mt (mt (mt mh)))) O O Zx O O (AE (AD (Ap.refl _) ⟨O,(iq (n:=0) O)⟩)))
         refine AQ.cons O ?_ ?_
         ·
          intro mq hh o
          intro uu uv
          have hsN:=o.st c
          obtain rfl:uu= .bool true:=Eq.trans uv (congrArg Value.bool K)
          refine⟨87,O,.inl ⟨O,?_⟩⟩
          exact LF.q 1 (QF.ldo (vs:=[.int .i64 A.Hour,ac,ad,ae,af,ag,ah]) Aa hsN O mh O O G6 O O (AE (AD (Ap.refl _) ⟨O,a6⟩)))
         refine AQ.cons O ?_ ?_
         ·
          intro mq hh o
          intro fal uw fam ux fan uy uz u0
          have hsN:=SN.st c o
          obtain⟨rfl,u1,u2,u3⟩:=uw
          obtain⟨rfl,u4⟩:=ux
          obtain⟨rfl,u5⟩:=uy
          obtain rfl:uz= .bool true:=Eq.trans u0 (congrArg Value.bool K)
          refine⟨87,O,.inl ⟨O,?_⟩⟩
          have e6:=au.trans (Y.trans (C.trans (D.trans (F.trans (G.trans (u.trans (y.trans (z.trans (j.trans (g.trans (s.trans (k.trans (d.trans (SN.ext c.1 o))))))))))))))
          have u6:=av.mono' e6
          have e7:=Y.trans (C.trans (D.trans (F.trans (G.trans (u.trans (y.trans (z.trans (j.trans (g.trans (s.trans (k.trans (d.trans (SN.ext c.1 o)))))))))))))
          have u7:=aw.mono' e7
          have e9:=C.trans (D.trans (F.trans (G.trans (u.trans (y.trans (z.trans (j.trans (g.trans (s.trans (k.trans (d.trans (SN.ext c.1 o))))))))))))
          have u8:=ax.mono' e9
          have fb:=u.trans (y.trans (z.trans (j.trans (g.trans (s.trans (k.trans (d.trans (SN.ext c.1 o))))))))
          have u9:=ay.mono' fb
          have va:=az.mono' (d.trans (SN.ext c.1 o))
          have vb:=a0.mono' (d.trans (SN.ext c.1 o))
          have vc:=a1.mono' (d.trans (SN.ext c.1 o))
          have vd:=a2.mono' (d.trans (SN.ext c.1 o))
          have ve:=a3.mono' (d.trans (SN.ext c.1 o))
          have vf:=a4.mono' (d.trans (SN.ext c.1 o))
          refine LF.callb O O O OR O hsN (Gr (St.all _) (A3.mk (x:=(⟨(ByteArray.mk #[98]),([(ByteArray.mk #[97])]:List ByteArray),0,B3,[],[],[],[],[],([0,0,0]:List Int),0⟩:AJ)) u1 (u6.mono (λb hb=>hsN.1 b hb) (λ_ _=>rfl)) u2 (u7.mono (λb hb=>hsN.1 b hb) (λ_ _=>rfl)) (.inl ⟨O,O⟩) (.inl ⟨O,O⟩) (.inl ⟨O,O⟩) (.inl ⟨O,O⟩) (.inl ⟨O,O⟩) (u8.mono (λb hb=>hsN.1 b hb) (λ_ _=>rfl)) u3) (Bj.mk (x:=(⟨0,([(⟨100,150⟩:AF)]:List AF),[],[]⟩:Aq)) u4 (u9.mono (λb hb=>hsN.1 b hb) (λ_ _=>rfl)) (.inl ⟨O,O⟩) (.inl ⟨O,O⟩)) (CA.mk (x:=A) u5 (va.mono (λb hb=>hsN.1 b hb) (λ_ _=>rfl)) (vb.mono (λb hb=>hsN.1 b hb) (λ_ _=>rfl)) (vc.mono (λb hb=>hsN.1 b hb) (λ_ _=>rfl)) (vd.mono (λb hb=>hsN.1 b hb) (λ_ _=>rfl)) (ve.mono (λb hb=>hsN.1 b hb) (λ_ _=>rfl)) (vf.mono (λb hb=>hsN.1 b hb) (λ_ _=>rfl))) bb) λfap faq far x5 fas dr p=>?_
          obtain⟨rfl,x6⟩:=p
          exact AD ⟨dr.siz,λb hb=>dr.same b hb⟩ O
         refine AQ.cons O ?_ ?_
         ·
          intro mq hh o
          intro vg vh fat vi
          have hsN:=o.st c
          obtain rfl:vg= .bool true:=Eq.trans vh (congrArg Value.bool K)
          cases vi
          exact LF.q 1 (QF.pick O O O (AE (AD (Ap.refl _) O)))
         refine AQ.cons O ?_ ?_
         ·
          intro mq hh o
          intro fau vj
          have hsN:=o.st c
          cases vj
          exact LF.q 1 (QF.mv O O (AE (AD (Ap.refl _) O)))
         refine AQ.cons O ?_ ?_
         ·
          intro mq hh o
          intro vk vl
          have hsN:=o.st c
          obtain rfl:vk= .bool true:=Eq.trans vl (congrArg Value.bool Q)
          refine⟨93,O,.inl ⟨O,?_⟩⟩
          exact LF.q 1 (QF.ldo (vs:=[.string (ByteArray.mk #[98]),(.slice (some ⟨U,0,none⟩) 1 1),.int .i64 0,(.slice (some ⟨V,0,none⟩) 1 1),.slice none 0 0,.slice none 0 0,.slice none 0 0,.slice none 0 0,.slice none 0 0,(.slice (some ⟨W,0,none⟩) 3 3),.int .i64 0]) Aa hsN O (mt (mt (mt (mt (mt mh))))) O O D1 O O (AE (AD (Ap.refl _) ⟨O,(by decide),(iq (n:=0) O),(iq (n:=0) O)⟩)))
         refine AQ.cons O ?_ ?_
         ·
          intro mq hh o
          intro vm vn
          have hsN:=o.st c
          obtain rfl:vm= .bool true:=Eq.trans vn (congrArg Value.bool Q)
          refine⟨93,O,.inl ⟨O,?_⟩⟩
          exact LF.q 1 (QF.ldo (vs:=[.int .i64 A.Hour,ac,ad,ae,af,ag,ah]) Aa hsN O mh O O G6 O O (AE (AD (Ap.refl _) ⟨O,a6⟩)))
         refine AQ.cons O ?_ ?_
         ·
          intro mq hh o
          intro fav vo faw vp vq vr
          have hsN:=SN.st c o
          obtain⟨rfl,vt,vu,vv⟩:=vo
          obtain⟨rfl,vw⟩:=vp
          obtain rfl:vq= .bool true:=Eq.trans vr (congrArg Value.bool Q)
          refine⟨93,O,.inl ⟨O,?_⟩⟩
          have hsF:=hsN.fz
          have fc:=au.trans (Y.trans (C.trans (D.trans (F.trans (G.trans (u.trans (y.trans (z.trans (j.trans (g.trans (s.trans (k.trans (d.trans (SN.ext c.1 o))))))))))))))
          have vx:=av.mono' fc
          have fd:=Y.trans (C.trans (D.trans (F.trans (G.trans (u.trans (y.trans (z.trans (j.trans (g.trans (s.trans (k.trans (d.trans (SN.ext c.1 o)))))))))))))
          have vy:=aw.mono' fd
          have fe:=C.trans (D.trans (F.trans (G.trans (u.trans (y.trans (z.trans (j.trans (g.trans (s.trans (k.trans (d.trans (SN.ext c.1 o))))))))))))
          have vz:=ax.mono' fe
          have v0:=az.mono' (d.trans (SN.ext c.1 o))
          have v1:=a0.mono' (d.trans (SN.ext c.1 o))
          have v2:=a1.mono' (d.trans (SN.ext c.1 o))
          have v3:=a2.mono' (d.trans (SN.ext c.1 o))
          have v4:=a3.mono' (d.trans (SN.ext c.1 o))
          have v5:=a4.mono' (d.trans (SN.ext c.1 o))
          refine LF.call O O O RI O (I8 hsF (A3.mk (x:=(⟨(ByteArray.mk #[98]),([(ByteArray.mk #[97])]:List ByteArray),0,B3,[],[],[],[],[],([0,0,0]:List Int),0⟩:AJ)) vt vx vu vy (.inl ⟨O,O⟩) (.inl ⟨O,O⟩) (.inl ⟨O,O⟩) (.inl ⟨O,O⟩) (.inl ⟨O,O⟩) vz vv) (CA.mk (x:=A) vw v0 v1 v2 v3 v4 v5) bt) λfax fay faz v6 p=>?_
          obtain⟨v7,ff⟩:=p
          have bv:=Fz.done o v6 ff
          exact AD bv.1 (Rd.mono v7 bv.2)
         refine AQ.cons O ?_ ?_
         ·
          intro mq hh o
          intro v8 bw v9 wa
          have hsN:=SN.st c o
          have bw:Rd _ _ Bj v8 bi:=bw
          obtain rfl:v9= .bool true:=Eq.trans wa (congrArg Value.bool Q)
          refine⟨93,O,.inl ⟨O,?_⟩⟩
          refine LF.callb O O O Nv O hsN (Fh (St.all _) (bw.mono ⟨λb hb=>hsN.1 b hb,λ_ _=>rfl,Nat.le_refl _⟩) bu) λfa0 fa1 fa2 x7 fa3 ds p=>?_
          obtain⟨rfl,wb,x8⟩:=p
          exact AD ⟨ds.siz,λb hb=>ds.same b hb⟩ ⟨O,wb⟩
         refine AQ.cons O ?_ ?_
         ·
          intro mq hh o
          intro fa4 wc wd we
          have hsN:=o.st c
          obtain⟨rfl,fa5⟩:=wc
          obtain rfl:wd= .bool true:=Eq.trans we (congrArg Value.bool Q)
          refine⟨93,O,.inl ⟨O,?_⟩⟩
          exact LF.q 1 (QF.eql O O O (AE (AD (Ap.refl _) O)))
         refine AQ.cons O ?_ ?_
         ·
          intro mq hh o
          intro wf wg fa6 wh
          have hsN:=o.st c
          obtain rfl:wf= .bool true:=Eq.trans wg (congrArg Value.bool Q)
          cases wh
          exact LF.q 1 (QF.pick O O O (AE (AD (Ap.refl _) O)))
         refine AQ.cons O ?_ ?_
         ·
          intro mq hh o
          intro fa7 wi
          have hsN:=o.st c
          cases wi
          exact LF.q 1 (QF.mv O O (AE (AD (Ap.refl _) O)))
         refine AQ.cons O ?_ ?_
         ·
          intro mq hh o
          intro wj wk
          have hsN:=o.st c
          obtain rfl:wj= .bool false:=Eq.trans wk (congrArg Value.bool ai)
          exact⟨100,O,.inr ⟨_,O,(by simp [yb,undef]),O⟩⟩
         refine AQ.cons O ?_ ?_
         ·
          intro mq hh o
          intro wl wm
          have hsN:=o.st c
          obtain rfl:wl= .bool false:=Eq.trans wm (congrArg Value.bool ai)
          exact⟨100,O,.inr ⟨_,O,(by simp [yb,undef]),O⟩⟩
         refine AQ.cons O ?_ ?_
         ·
          intro mq hh o
          intro wn wo
          have hsN:=o.st c
          obtain rfl:wn= .bool false:=Eq.trans wo (congrArg Value.bool ai)
          exact⟨100,O,.inr ⟨_,O,(by simp [yb,undef]),O⟩⟩
         refine AQ.cons O ?_ ?_
         ·
          intro mq hh o
          intro wp wq
          have hsN:=SN.st c o
          obtain rfl:wp= .bool false:=Eq.trans wq (congrArg Value.bool ai)
          exact⟨100,O,.inr ⟨_,O,(by simp [yb,undef]),O⟩⟩
         refine AQ.cons O ?_ ?_
         ·
          intro mq hh o
          intro wr ws
          have hsN:=o.st c
          obtain rfl:wr= .bool false:=Eq.trans ws (congrArg Value.bool ai)
          exact⟨100,O,.inr ⟨_,O,(by simp [yb,undef]),O⟩⟩
         refine AQ.cons O ?_ ?_
         ·
          intro mq hh o
          intro wt wu
          have hsN:=SN.st c o
          obtain rfl:wt= .bool false:=Eq.trans wu (congrArg Value.bool ai)
          exact⟨100,O,.inr ⟨_,O,(by simp [yb,undef]),O⟩⟩
         refine AQ.cons O ?_ ?_
         ·
          intro mq hh o
          intro wv wx fa8 wy
          have hsN:=o.st c
          obtain rfl:wv= .bool false:=Eq.trans wx (congrArg Value.bool ai)
          cases wy
          exact LF.q 1 (QF.pick O O O (AE (AD (Ap.refl _) O)))
         refine AQ.cons O ?_ ?_
         ·
          intro mq hh o
          intro x9 fg
          have hsN:=o.st c
          cases fg
          exact LF.q 1 (QF.as_ O O (AE (AD (Ap.refl _) O)))
         exact trivial
        intro ya bx yc fh
        have ce:=SN.st c bx
        cases fh
        exact LF.nil (kp [0] O) (WF.nil (λaa ww hf hw=>⟨_,_,hf.sub (kp [0] O),hw,ce,(SN.ext c.1 bx),trivial⟩))
       ·
        have X:=Av ai X
        obtain⟨bz,cf,X⟩:=bd X
        obtain⟨bc,cg,X⟩:=bd X
        have fi:=Option.some.inj X
        subst fi
        refine Iy (m:=[(8,.bool ((I&&(decide (t.1.Hour=1)))&&(decide ((↑t.1.Queue.length:Int)=0)))),(7,.pointer (some ⟨a5,0,none⟩)),(3,.pointer (some ⟨ba,0,none⟩)),(2,.pointer (some ⟨a9,0,none⟩))]) 33 (λi v hh=>match i with|0=>v= .bool ((I&&(decide (t.1.Hour=1)))&&(decide ((↑t.1.Queue.length:Int)=0)))|1=>v= .bool ((I&&(decide (t.1.Hour=1)))&&(decide ((↑t.1.Queue.length:Int)=0)))|2=>v= .agg #[.string (ByteArray.mk #[98]),(.slice (some ⟨U,0,none⟩) 1 1),.int .i64 0,(.slice (some ⟨V,0,none⟩) 1 1),.slice none 0 0,.slice none 0 0,.slice none 0 0,.slice none 0 0,.slice none 0 0,(.slice (some ⟨W,0,none⟩) 3 3),.int .i64 0]∧(ByteArray.mk #[98]).size≤maxLen∧AB 0∧AB 0|3=>v= .agg #[.int .i64 0,(.slice (some ⟨Z,0,none⟩) 1 1),.slice none 0 0,.slice none 0 0]∧AB 0|4=>v= .bool aj|5=>v= .bool aj|6=>v= .bool aj|7=>v= .agg #[.int .i64 0,(.slice (some ⟨Z,0,none⟩) 1 1),.slice none 0 0,.slice none 0 0]∧AB 0|8=>v= .int .i64 M∧AB M|9=>v= .bool (decide (M=50))|10=>v= .bool (decide (M=50))|11=>v= .bool (decide (M=50))|12=>v= .agg #[.string (ByteArray.mk #[98]),(.slice (some ⟨U,0,none⟩) 1 1),.int .i64 0,(.slice (some ⟨V,0,none⟩) 1 1),.slice none 0 0,.slice none 0 0,.slice none 0 0,.slice none 0 0,.slice none 0 0,(.slice (some ⟨W,0,none⟩) 3 3),.int .i64 0]∧(ByteArray.mk #[98]).size≤maxLen∧AB 0∧AB 0|13=>v= .agg #[.int .i64 0,(.slice (some ⟨Z,0,none⟩) 1 1),.slice none 0 0,.slice none 0 0]∧AB 0|14=>v= .agg #[.int .i64 A.Hour,ac,ad,ae,af,ag,ah]∧AB A.Hour|15=>v= .bool ar|16=>v= .bool ar|17=>v= .bool ar|18=>v= .agg #[.string (ByteArray.mk #[98]),(.slice (some ⟨U,0,none⟩) 1 1),.int .i64 0,(.slice (some ⟨V,0,none⟩) 1 1),.slice none 0 0,.slice none 0 0,.slice none 0 0,.slice none 0 0,.slice none 0 0,(.slice (some ⟨W,0,none⟩) 3 3),.int .i64 0]∧(ByteArray.mk #[98]).size≤maxLen∧AB 0∧AB 0|19=>v= .agg #[.int .i64 A.Hour,ac,ad,ae,af,ag,ah]∧AB A.Hour|20=>Rd (SN bg bh hh) hh Bj v bi|21=>v= .int .i64 aq∧AB aq|22=>v= .bool (decide (aq=0))|23=>v= .bool (decide (aq=0))|24=>v= .bool (decide (aq=0))|25=>v= .agg #[.string (ByteArray.mk #[98]),(.slice (some ⟨U,0,none⟩) 1 1),.int .i64 0,(.slice (some ⟨V,0,none⟩) 1 1),.slice none 0 0,.slice none 0 0,.slice none 0 0,.slice none 0 0,.slice none 0 0,(.slice (some ⟨W,0,none⟩) 3 3),.int .i64 0]∧(ByteArray.mk #[98]).size≤maxLen∧AB 0∧AB 0|26=>v= .agg #[.string (ByteArray.mk #[98]),(.slice (some ⟨U,0,none⟩) 1 1),.int .i64 0,(.slice (some ⟨V,0,none⟩) 1 1),.slice none 0 0,.slice none 0 0,.slice none 0 0,.slice none 0 0,.slice none 0 0,(.slice (some ⟨W,0,none⟩) 3 3),.int .i64 0]∧(ByteArray.mk #[98]).size≤maxLen∧AB 0∧AB 0|27=>v= .agg #[.int .i64 A.Hour,ac,ad,ae,af,ag,ah]∧AB A.Hour|28=>Rd (SN bg bh hh) hh Bj v bz|29=>v= .agg #[.int .i64 A.Hour,ac,ad,ae,af,ag,ah]∧AB A.Hour|30=>v= .bool bc|31=>v= .bool bc|32=>v= .bool bc|_=>False) [[],[(0,76)],[(1,77)],[(1,77)],[(2,78),(3,79),(1,77)],[(1,77),(4,80)],[(5,81)],[(6,82)],[(7,83),(6,82)],[(8,84),(6,82)],[(6,82),(9,85)],[(10,86)],[(11,87)],[(11,87)],[(11,87)],[(12,88),(13,89),(14,90),(11,87)],[(11,87),(15,91)],[(16,92)],[(17,93)],[(17,93)],[(18,94),(19,95),(17,93)],[(20,96),(17,93)],[(21,97),(17,93)],[(17,93),(22,98)],[(23,99)],[(24,100)],[(24,100)],[(24,100)],[(26,102),(27,103),(24,100)],[(24,100)],[(25,101),(28,104),(29,105),(24,100)],[(24,100),(30,106)],[(31,107)]] [(32,0)] mo (by kernel_rfl) [8,7,3,2] O (by kernel_rfl) (by kernel_rfl) (by kernel_rfl) (kp [8,7,3,2] O) (λi v h1 h2 o1 o2 hr=>?_) ?_ ?_
        ·match i,hr with
          |0,hr=>exact hr
          |1,hr=>exact hr
          |2,hr=>exact hr
          |3,hr=>exact hr
          |4,hr=>exact hr
          |5,hr=>exact hr
          |6,hr=>exact hr
          |7,hr=>exact hr
          |8,hr=>exact hr
          |9,hr=>exact hr
          |10,hr=>exact hr
          |11,hr=>exact hr
          |12,hr=>exact hr
          |13,hr=>exact hr
          |14,hr=>exact hr
          |15,hr=>exact hr
          |16,hr=>exact hr
          |17,hr=>exact hr
          |18,hr=>exact hr
          |19,hr=>exact hr
          |20,hr=>exact Rd.mono hr (SN.mono c.1 o1 o2)
          |21,hr=>exact hr
          |22,hr=>exact hr
          |23,hr=>exact hr
          |24,hr=>exact hr
          |25,hr=>exact hr
          |26,hr=>exact hr
          |27,hr=>exact hr
          |28,hr=>exact Rd.mono hr (SN.mono c.1 o1 o2)
          |29,hr=>exact hr
          |30,hr=>exact hr
          |31,hr=>exact hr
          |32,hr=>exact hr
          |_+33,hr=>exact hr.elim
        ·
         refine AQ.cons O ?_ ?_
         ·
          intro mq hh o
          have hsN:=o.st c
          exact LF.q 1 (QF.mv O O (AE (AD (Ap.refl _) O)))
         refine AQ.cons O ?_ ?_
         ·
          intro mq hh o
          intro yd fj
          have hsN:=o.st c
          cases fj
          exact LF.q 1 (QF.mv O O (AE (AD (Ap.refl _) O)))
         refine AQ.cons O ?_ ?_
         ·
          intro mq hh o
          intro fk fl
          have hsN:=o.st c
          obtain rfl:fk= .bool true:=Eq.trans fl (congrArg Value.bool H)
          refine⟨77,O,.inl ⟨O,?_⟩⟩
          exact LF.q 1 (QF.ldo (vs:=[.string (ByteArray.mk #[98]),(.slice (some ⟨U,0,none⟩) 1 1),.int .i64 0,(.slice (some ⟨V,0,none⟩) 1 1),.slice none 0 0,.slice none 0 0,.slice none 0 0,.slice none 0 0,.slice none 0 0,(.slice (some ⟨W,0,none⟩) 3 3),.int .i64 0]) Aa hsN O (mt (mt (mt (mt (mt mh))))) O O D1 O O (AE (AD (Ap.refl _) ⟨O,(by decide),(iq (n:=0) O),(iq (n:=0) O)⟩)))
         refine AQ.cons O ?_ ?_
         ·
          intro mq hh o
          intro fm fn
          have hsN:=o.st c
          obtain rfl:fm= .bool true:=Eq.trans fn (congrArg Value.bool H)
          refine⟨77,O,.inl ⟨O,?_⟩⟩
          exact LF.q 1 (QF.ldo (vs:=[.int .i64 0,(.slice (some ⟨Z,0,none⟩) 1 1),.slice none 0 0,.slice none 0 0]) Aa hsN O (mt (mt (mt (mt mh)))) O O Zx O O (AE (AD (Ap.refl _) ⟨O,(iq (n:=0) O)⟩)))
         refine AQ.cons O ?_ ?_
         ·
          intro mq hh o
          intro ye fo yf fp fq fr
          have hsN:=SN.st c o
          obtain⟨rfl,fs,ft,fu⟩:=fo
          obtain⟨rfl,fv⟩:=fp
          obtain rfl:fq= .bool true:=Eq.trans fr (congrArg Value.bool H)
          refine⟨77,O,.inl ⟨O,?_⟩⟩
          have ch:=au.trans (Y.trans (C.trans (D.trans (F.trans (G.trans (u.trans (y.trans (z.trans (j.trans (g.trans (s.trans (k.trans (d.trans (SN.ext c.1 o))))))))))))))
          have fw:=av.mono' ch
          have ci:=Y.trans (C.trans (D.trans (F.trans (G.trans (u.trans (y.trans (z.trans (j.trans (g.trans (s.trans (k.trans (d.trans (SN.ext c.1 o)))))))))))))
          have fx:=aw.mono' ci
          have cj:=C.trans (D.trans (F.trans (G.trans (u.trans (y.trans (z.trans (j.trans (g.trans (s.trans (k.trans (d.trans (SN.ext c.1 o))))))))))))
          have fy:=ax.mono' cj
          have ck:=u.trans (y.trans (z.trans (j.trans (g.trans (s.trans (k.trans (d.trans (SN.ext c.1 o))))))))
          have f0:=ay.mono' ck
          refine LF.callb O O O OT O hsN (Ft (St.all _) (A3.mk (x:=(⟨(ByteArray.mk #[98]),([(ByteArray.mk #[97])]:List ByteArray),0,B3,[],[],[],[],[],([0,0,0]:List Int),0⟩:AJ)) fs (fw.mono (λb hb=>hsN.1 b hb) (λ_ _=>rfl)) ft (fx.mono (λb hb=>hsN.1 b hb) (λ_ _=>rfl)) (.inl ⟨O,O⟩) (.inl ⟨O,O⟩) (.inl ⟨O,O⟩) (.inl ⟨O,O⟩) (.inl ⟨O,O⟩) (fy.mono (λb hb=>hsN.1 b hb) (λ_ _=>rfl)) fu) (Bj.mk (x:=(⟨0,([(⟨100,150⟩:AF)]:List AF),[],[]⟩:Aq)) fv (f0.mono (λb hb=>hsN.1 b hb) (λ_ _=>rfl)) (.inl ⟨O,O⟩) (.inl ⟨O,O⟩)) a7) λyg yh yi wz yj b0 p=>?_
          obtain⟨rfl,w0⟩:=p
          exact AD ⟨b0.siz,λb hb=>b0.same b hb⟩ O
         refine AQ.cons O ?_ ?_
         ·
          intro mq hh o
          intro f1 f2 yk f3
          have hsN:=o.st c
          obtain rfl:f1= .bool true:=Eq.trans f2 (congrArg Value.bool H)
          cases f3
          exact LF.q 1 (QF.pick O O O (AE (AD (Ap.refl _) O)))
         refine AQ.cons O ?_ ?_
         ·
          intro mq hh o
          intro yl f4
          have hsN:=o.st c
          cases f4
          exact LF.q 1 (QF.mv O O (AE (AD (Ap.refl _) O)))
         refine AQ.cons O ?_ ?_
         ·
          intro mq hh o
          intro f5 f6
          have hsN:=o.st c
          obtain rfl:f5= .bool true:=Eq.trans f6 (congrArg Value.bool J)
          refine⟨82,O,.inl ⟨O,?_⟩⟩
          exact LF.q 1 (QF.ldo (vs:=[.int .i64 0,(.slice (some ⟨Z,0,none⟩) 1 1),.slice none 0 0,.slice none 0 0]) Aa hsN O (mt (mt (mt (mt mh)))) O O Zx O O (AE (AD (Ap.refl _) ⟨O,(iq (n:=0) O)⟩)))
         refine AQ.cons O ?_ ?_
         ·
          intro mq hh o
          intro ym f7 f8 f9
          have hsN:=SN.st c o
          obtain⟨rfl,ga⟩:=f7
          obtain rfl:f8= .bool true:=Eq.trans f9 (congrArg Value.bool J)
          refine⟨82,O,.inl ⟨O,?_⟩⟩
          have cl:=u.trans (y.trans (z.trans (j.trans (g.trans (s.trans (k.trans (d.trans (SN.ext c.1 o))))))))
          have gb:=ay.mono' cl
          refine LF.callb O O O Nv O hsN (Fh (St.all _) (Bj.mk (x:=(⟨0,([(⟨100,150⟩:AF)]:List AF),[],[]⟩:Aq)) ga (gb.mono (λb hb=>hsN.1 b hb) (λ_ _=>rfl)) (.inl ⟨O,O⟩) (.inl ⟨O,O⟩)) a8) λyn yo yp w1 yq b2 p=>?_
          obtain⟨rfl,gc,w2⟩:=p
          exact AD ⟨b2.siz,λb hb=>b2.same b hb⟩ ⟨O,gc⟩
         refine AQ.cons O ?_ ?_
         ·
          intro mq hh o
          intro yr ge gf gg
          have hsN:=o.st c
          obtain⟨rfl,ys⟩:=ge
          obtain rfl:gf= .bool true:=Eq.trans gg (congrArg Value.bool J)
          refine⟨82,O,.inl ⟨O,?_⟩⟩
          exact LF.q 1 (QF.eql O O O (AE (AD (Ap.refl _) O)))
         refine AQ.cons O ?_ ?_
         ·
          intro mq hh o
          intro gh gi yt gj
          have hsN:=o.st c
          obtain rfl:gh= .bool true:=Eq.trans gi (congrArg Value.bool J)
          cases gj
          exact LF.q 1 (QF.pick O O O (AE (AD (Ap.refl _) O)))
         refine AQ.cons O ?_ ?_
         ·
          intro mq hh o
          intro yu gk
          have hsN:=o.st c
          cases gk
          exact LF.q 1 (QF.mv O O (AE (AD (Ap.refl _) O)))
         refine AQ.cons O ?_ ?_
         ·
          intro mq hh o
          intro gl gm
          have hsN:=o.st c
          obtain rfl:gl= .bool true:=Eq.trans gm (congrArg Value.bool K)
          refine⟨87,O,.inl ⟨O,?_⟩⟩
          exact LF.q 1 (QF.ldo (vs:=[.string (ByteArray.mk #[98]),(.slice (some ⟨U,0,none⟩) 1 1),.int .i64 0,(.slice (some ⟨V,0,none⟩) 1 1),.slice none 0 0,.slice none 0 0,.slice none 0 0,.slice none 0 0,.slice none 0 0,(.slice (some ⟨W,0,none⟩) 3 3),.int .i64 0]) Aa hsN O (mt (mt (mt (mt (mt mh))))) O O D1 O O (AE (AD (Ap.refl _) ⟨O,(by decide),(iq (n:=0) O),(iq (n:=0) O)⟩)))
         refine AQ.cons O ?_ ?_
         ·
          intro mq hh o
          intro gp gq
          have hsN:=o.st c
          obtain rfl:gp= .bool true:=Eq.trans gq (congrArg Value.bool K)
          refine⟨87,O,.inl ⟨O,?_⟩⟩
          exact LF.q 1 (QF.ldo (vs:=[.int .i64 0,(.slice (some ⟨Z,0,none⟩) 1 1),.slice none 0 0,.slice none 0 0]) Aa hsN O (mt (mt (mt (mt mh)))) O O Zx O O (AE (AD (Ap.refl _) ⟨O,(iq (n:=0) O)⟩)))
         refine AQ.cons O ?_ ?_
         ·
          intro mq hh o
          intro gr gs
          have hsN:=o.st c
          obtain rfl:gr= .bool true:=Eq.trans gs (congrArg Value.bool K)
          refine⟨87,O,.inl ⟨O,?_⟩⟩
          exact LF.q 1 (QF.ldo (vs:=[.int .i64 A.Hour,ac,ad,ae,af,ag,ah]) Aa hsN O mh O O G6 O O (AE (AD (Ap.refl _) ⟨O,a6⟩)))
         refine AQ.cons O ?_ ?_
         ·
          intro mq hh o
          intro yv gu yw gv yx gw gx gz
          have hsN:=SN.st c o
          obtain⟨rfl,g0,g1,g2⟩:=gu
          obtain⟨rfl,g3⟩:=gv
          obtain⟨rfl,g4⟩:=gw
          obtain rfl:gx= .bool true:=Eq.trans gz (congrArg Value.bool K)
          refine⟨87,O,.inl ⟨O,?_⟩⟩
          have cm:=au.trans (Y.trans (C.trans (D.trans (F.trans (G.trans (u.trans (y.trans (z.trans (j.trans (g.trans (s.trans (k.trans (d.trans (SN.ext c.1 o))))))))))))))
          have g5:=av.mono' cm
          have cn:=Y.trans (C.trans (D.trans (F.trans (G.trans (u.trans (y.trans (z.trans (j.trans (g.trans (s.trans (k.trans (d.trans (SN.ext c.1 o)))))))))))))
          have g6:=aw.mono' cn
          have co:=C.trans (D.trans (F.trans (G.trans (u.trans (y.trans (z.trans (j.trans (g.trans (s.trans (k.trans (d.trans (SN.ext c.1 o))))))))))))
          have g7:=ax.mono' co
          have cp:=u.trans (y.trans (z.trans (j.trans (g.trans (s.trans (k.trans (d.trans (SN.ext c.1 o))))))))
          have g8:=ay.mono' cp
          have g9:=az.mono' (d.trans (SN.ext c.1 o))
          have ha:=a0.mono' (d.trans (SN.ext c.1 o))
          have hc:=a1.mono' (d.trans (SN.ext c.1 o))
          have hd:=a2.mono' (d.trans (SN.ext c.1 o))
          have he:=a3.mono' (d.trans (SN.ext c.1 o))
          have hg:=a4.mono' (d.trans (SN.ext c.1 o))
          refine LF.callb O O O OR O hsN (Gr (St.all _) (A3.mk (x:=(⟨(ByteArray.mk #[98]),([(ByteArray.mk #[97])]:List ByteArray),0,B3,[],[],[],[],[],([0,0,0]:List Int),0⟩:AJ)) g0 (g5.mono (λb hb=>hsN.1 b hb) (λ_ _=>rfl)) g1 (g6.mono (λb hb=>hsN.1 b hb) (λ_ _=>rfl)) (.inl ⟨O,O⟩) (.inl ⟨O,O⟩) (.inl ⟨O,O⟩) (.inl ⟨O,O⟩) (.inl ⟨O,O⟩) (g7.mono (λb hb=>hsN.1 b hb) (λ_ _=>rfl)) g2) (Bj.mk (x:=(⟨0,([(⟨100,150⟩:AF)]:List AF),[],[]⟩:Aq)) g3 (g8.mono (λb hb=>hsN.1 b hb) (λ_ _=>rfl)) (.inl ⟨O,O⟩) (.inl ⟨O,O⟩)) (CA.mk (x:=A) g4 (g9.mono (λb hb=>hsN.1 b hb) (λ_ _=>rfl)) (ha.mono (λb hb=>hsN.1 b hb) (λ_ _=>rfl)) (hc.mono (λb hb=>hsN.1 b hb) (λ_ _=>rfl)) (hd.mono (λb hb=>hsN.1 b hb) (λ_ _=>rfl)) (he.mono (λb hb=>hsN.1 b hb) (λ_ _=>rfl)) (hg.mono (λb hb=>hsN.1 b hb) (λ_ _=>rfl))) bb) λyy yz y0 w3 y1 b3 p=>?_
          obtain⟨rfl,w4⟩:=p
          exact AD ⟨b3.siz,λb hb=>b3.same b hb⟩ O
         refine AQ.cons O ?_ ?_
         ·
          intro mq hh o
          intro hi hj y2 hk
          have hsN:=o.st c
          obtain rfl:hi= .bool true:=Eq.trans hj (congrArg Value.bool K)
          cases hk
          exact LF.q 1 (QF.pick O O O (AE (AD (Ap.refl _) O)))
         refine AQ.cons O ?_ ?_
         ·
          intro mq hh o
          intro y3 hl
          have hsN:=o.st c
          cases hl
          exact LF.q 1 (QF.mv O O (AE (AD (Ap.refl _) O)))
         refine AQ.cons O ?_ ?_
         ·
          intro mq hh o
          intro hm hn
          have hsN:=o.st c
          obtain rfl:hm= .bool true:=Eq.trans hn (congrArg Value.bool Q)
          refine⟨93,O,.inl ⟨O,?_⟩⟩
          exact LF.q 1 (QF.ldo (vs:=[.string (ByteArray.mk #[98]),(.slice (some ⟨U,0,none⟩) 1 1),.int .i64 0,(.slice (some ⟨V,0,none⟩) 1 1),.slice none 0 0,.slice none 0 0,.slice none 0 0,.slice none 0 0,.slice none 0 0,(.slice (some ⟨W,0,none⟩) 3 3),.int .i64 0]) Aa hsN O (mt (mt (mt (mt (mt mh))))) O O D1 O O (AE (AD (Ap.refl _) ⟨O,(by decide),(iq (n:=0) O),(iq (n:=0) O)⟩)))
         refine AQ.cons O ?_ ?_
         ·
          intro mq hh o
          intro ho hp
          have hsN:=o.st c
          obtain rfl:ho= .bool true:=Eq.trans hp (congrArg Value.bool Q)
          refine⟨93,O,.inl ⟨O,?_⟩⟩
          exact LF.q 1 (QF.ldo (vs:=[.int .i64 A.Hour,ac,ad,ae,af,ag,ah]) Aa hsN O mh O O G6 O O (AE (AD (Ap.refl _) ⟨O,a6⟩)))
         refine AQ.cons O ?_ ?_
         ·
          intro mq hh o
          intro y4 hq y5 ht hu hv
          have hsN:=SN.st c o
          obtain⟨rfl,hx,hy,hz⟩:=hq
          obtain⟨rfl,h0⟩:=ht
          obtain rfl:hu= .bool true:=Eq.trans hv (congrArg Value.bool Q)
          refine⟨93,O,.inl ⟨O,?_⟩⟩
          have hsF:=hsN.fz
          have cq:=au.trans (Y.trans (C.trans (D.trans (F.trans (G.trans (u.trans (y.trans (z.trans (j.trans (g.trans (s.trans (k.trans (d.trans (SN.ext c.1 o))))))))))))))
          have h3:=av.mono' cq
          have cr:=Y.trans (C.trans (D.trans (F.trans (G.trans (u.trans (y.trans (z.trans (j.trans (g.trans (s.trans (k.trans (d.trans (SN.ext c.1 o)))))))))))))
          have h4:=aw.mono' cr
          have ct:=C.trans (D.trans (F.trans (G.trans (u.trans (y.trans (z.trans (j.trans (g.trans (s.trans (k.trans (d.trans (SN.ext c.1 o))))))))))))
          have h5:=ax.mono' ct
          have h7:=az.mono' (d.trans (SN.ext c.1 o))
          have h8:=a0.mono' (d.trans (SN.ext c.1 o))
          have h9:=a1.mono' (d.trans (SN.ext c.1 o))
          have ia:=a2.mono' (d.trans (SN.ext c.1 o))
          have ib:=a3.mono' (d.trans (SN.ext c.1 o))
          have ic:=a4.mono' (d.trans (SN.ext c.1 o))
          refine LF.call O O O RI O (I8 hsF (A3.mk (x:=(⟨(ByteArray.mk #[98]),([(ByteArray.mk #[97])]:List ByteArray),0,B3,[],[],[],[],[],([0,0,0]:List Int),0⟩:AJ)) hx h3 hy h4 (.inl ⟨O,O⟩) (.inl ⟨O,O⟩) (.inl ⟨O,O⟩) (.inl ⟨O,O⟩) (.inl ⟨O,O⟩) h5 hz) (CA.mk (x:=A) h0 h7 h8 h9 ia ib ic) bt) λy6 y7 y8 ie p=>?_
          obtain⟨ig,cu⟩:=p
          have bj:=Fz.done o ie cu
          exact AD bj.1 (Rd.mono ig bj.2)
         refine AQ.cons O ?_ ?_
         ·
          intro mq hh o
          intro ih be ii ij
          have hsN:=SN.st c o
          have be:Rd _ _ Bj ih bi:=be
          obtain rfl:ii= .bool true:=Eq.trans ij (congrArg Value.bool Q)
          refine⟨93,O,.inl ⟨O,?_⟩⟩
          refine LF.callb O O O Nv O hsN (Fh (St.all _) (be.mono ⟨λb hb=>hsN.1 b hb,λ_ _=>rfl,Nat.le_refl _⟩) bu) λy9 za zb w5 zc b4 p=>?_
          obtain⟨rfl,ik,w6⟩:=p
          exact AD ⟨b4.siz,λb hb=>b4.same b hb⟩ ⟨O,ik⟩
         refine AQ.cons O ?_ ?_
         ·
          intro mq hh o
          intro zd il im io
          have hsN:=o.st c
          obtain⟨rfl,ze⟩:=il
          obtain rfl:im= .bool true:=Eq.trans io (congrArg Value.bool Q)
          refine⟨93,O,.inl ⟨O,?_⟩⟩
          exact LF.q 1 (QF.eql O O O (AE (AD (Ap.refl _) O)))
         refine AQ.cons O ?_ ?_
         ·
          intro mq hh o
          intro ip ir zf it
          have hsN:=o.st c
          obtain rfl:ip= .bool true:=Eq.trans ir (congrArg Value.bool Q)
          cases it
          exact LF.q 1 (QF.pick O O O (AE (AD (Ap.refl _) O)))
         refine AQ.cons O ?_ ?_
         ·
          intro mq hh o
          intro zg iu
          have hsN:=o.st c
          cases iu
          exact LF.q 1 (QF.mv O O (AE (AD (Ap.refl _) O)))
         refine AQ.cons O ?_ ?_
         ·
          intro mq hh o
          intro iv iw
          have hsN:=o.st c
          obtain rfl:iv= .bool true:=Eq.trans iw (congrArg Value.bool ai)
          refine⟨100,O,.inl ⟨O,?_⟩⟩
          exact LF.q 1 (QF.ldo (vs:=[.string (ByteArray.mk #[98]),(.slice (some ⟨U,0,none⟩) 1 1),.int .i64 0,(.slice (some ⟨V,0,none⟩) 1 1),.slice none 0 0,.slice none 0 0,.slice none 0 0,.slice none 0 0,.slice none 0 0,(.slice (some ⟨W,0,none⟩) 3 3),.int .i64 0]) Aa hsN O (mt (mt (mt (mt (mt mh))))) O O D1 O O (AE (AD (Ap.refl _) ⟨O,(by decide),(iq (n:=0) O),(iq (n:=0) O)⟩)))
         refine AQ.cons O ?_ ?_
         ·
          intro mq hh o
          intro iy iz
          have hsN:=o.st c
          obtain rfl:iy= .bool true:=Eq.trans iz (congrArg Value.bool ai)
          refine⟨100,O,.inl ⟨O,?_⟩⟩
          exact LF.q 1 (QF.ldo (vs:=[.string (ByteArray.mk #[98]),(.slice (some ⟨U,0,none⟩) 1 1),.int .i64 0,(.slice (some ⟨V,0,none⟩) 1 1),.slice none 0 0,.slice none 0 0,.slice none 0 0,.slice none 0 0,.slice none 0 0,(.slice (some ⟨W,0,none⟩) 3 3),.int .i64 0]) Aa hsN O (mt (mt (mt (mt (mt mh))))) O O D1 O O (AE (AD (Ap.refl _) ⟨O,(by decide),(iq (n:=0) O),(iq (n:=0) O)⟩)))
         refine AQ.cons O ?_ ?_
         ·
          intro mq hh o
          intro i0 i1
          have hsN:=o.st c
          obtain rfl:i0= .bool true:=Eq.trans i1 (congrArg Value.bool ai)
          refine⟨100,O,.inl ⟨O,?_⟩⟩
          exact LF.q 1 (QF.ldo (vs:=[.int .i64 A.Hour,ac,ad,ae,af,ag,ah]) Aa hsN O mh O O G6 O O (AE (AD (Ap.refl _) ⟨O,a6⟩)))
         refine AQ.cons O ?_ ?_
         ·
          intro mq hh o
          intro zh i2 zi i3 i4 i5
          have hsN:=SN.st c o
          obtain⟨rfl,i6,i7,i8⟩:=i2
          obtain⟨rfl,i9⟩:=i3
          obtain rfl:i4= .bool true:=Eq.trans i5 (congrArg Value.bool ai)
          refine⟨100,O,.inl ⟨O,?_⟩⟩
          have hsF:=hsN.fz
          have cv:=au.trans (Y.trans (C.trans (D.trans (F.trans (G.trans (u.trans (y.trans (z.trans (j.trans (g.trans (s.trans (k.trans (d.trans (SN.ext c.1 o))))))))))))))
          have ja:=av.mono' cv
          have cw:=Y.trans (C.trans (D.trans (F.trans (G.trans (u.trans (y.trans (z.trans (j.trans (g.trans (s.trans (k.trans (d.trans (SN.ext c.1 o)))))))))))))
          have jb:=aw.mono' cw
          have cx:=C.trans (D.trans (F.trans (G.trans (u.trans (y.trans (z.trans (j.trans (g.trans (s.trans (k.trans (d.trans (SN.ext c.1 o))))))))))))
          have jc:=ax.mono' cx
          have jd:=az.mono' (d.trans (SN.ext c.1 o))
          have je:=a0.mono' (d.trans (SN.ext c.1 o))
          have jf:=a1.mono' (d.trans (SN.ext c.1 o))
          have jg:=a2.mono' (d.trans (SN.ext c.1 o))
          have jh:=a3.mono' (d.trans (SN.ext c.1 o))
          have ji:=a4.mono' (d.trans (SN.ext c.1 o))
          refine LF.call O O O RI O (I8 hsF (A3.mk (x:=(⟨(ByteArray.mk #[98]),([(ByteArray.mk #[97])]:List ByteArray),0,B3,[],[],[],[],[],([0,0,0]:List Int),0⟩:AJ)) i6 ja i7 jb (.inl ⟨O,O⟩) (.inl ⟨O,O⟩) (.inl ⟨O,O⟩) (.inl ⟨O,O⟩) (.inl ⟨O,O⟩) jc i8) (CA.mk (x:=A) i9 jd je jf jg jh ji) cf) λzj zk zl jj p=>?_
          obtain⟨jk,cy⟩:=p
          have bk:=Fz.done o jj cy
          exact AD bk.1 (Rd.mono jk bk.2)
         refine AQ.cons O ?_ ?_
         ·
          intro mq hh o
          intro jl jm
          have hsN:=o.st c
          obtain rfl:jl= .bool true:=Eq.trans jm (congrArg Value.bool ai)
          refine⟨100,O,.inl ⟨O,?_⟩⟩
          exact LF.q 1 (QF.ldo (vs:=[.int .i64 A.Hour,ac,ad,ae,af,ag,ah]) Aa hsN O mh O O G6 O O (AE (AD (Ap.refl _) ⟨O,a6⟩)))
         refine AQ.cons O ?_ ?_
         ·
          intro mq hh o
          intro zm jn jo bf zn jp jq jr
          have hsN:=SN.st c o
          obtain⟨rfl,js,jt,ju⟩:=jn
          have bf:Rd _ _ Bj jo bz:=bf
          obtain⟨rfl,jv⟩:=jp
          obtain rfl:jq= .bool true:=Eq.trans jr (congrArg Value.bool ai)
          refine⟨100,O,.inl ⟨O,?_⟩⟩
          have cz:=au.trans (Y.trans (C.trans (D.trans (F.trans (G.trans (u.trans (y.trans (z.trans (j.trans (g.trans (s.trans (k.trans (d.trans (SN.ext c.1 o))))))))))))))
          have jw:=av.mono' cz
          have c0:=Y.trans (C.trans (D.trans (F.trans (G.trans (u.trans (y.trans (z.trans (j.trans (g.trans (s.trans (k.trans (d.trans (SN.ext c.1 o)))))))))))))
          have jx:=aw.mono' c0
          have c1:=C.trans (D.trans (F.trans (G.trans (u.trans (y.trans (z.trans (j.trans (g.trans (s.trans (k.trans (d.trans (SN.ext c.1 o))))))))))))
          have jy:=ax.mono' c1
          have jz:=az.mono' (d.trans (SN.ext c.1 o))
          have j0:=a0.mono' (d.trans (SN.ext c.1 o))
          have j1:=a1.mono' (d.trans (SN.ext c.1 o))
          have j2:=a2.mono' (d.trans (SN.ext c.1 o))
          have j3:=a3.mono' (d.trans (SN.ext c.1 o))
          have j4:=a4.mono' (d.trans (SN.ext c.1 o))
          refine LF.callb O O O OR O hsN (Gr (St.all _) (A3.mk (x:=(⟨(ByteArray.mk #[98]),([(ByteArray.mk #[97])]:List ByteArray),0,B3,[],[],[],[],[],([0,0,0]:List Int),0⟩:AJ)) js (jw.mono (λb hb=>hsN.1 b hb) (λ_ _=>rfl)) jt (jx.mono (λb hb=>hsN.1 b hb) (λ_ _=>rfl)) (.inl ⟨O,O⟩) (.inl ⟨O,O⟩) (.inl ⟨O,O⟩) (.inl ⟨O,O⟩) (.inl ⟨O,O⟩) (jy.mono (λb hb=>hsN.1 b hb) (λ_ _=>rfl)) ju) (bf.mono ⟨λb hb=>hsN.1 b hb,λ_ _=>rfl,Nat.le_refl _⟩) (CA.mk (x:=A) jv (jz.mono (λb hb=>hsN.1 b hb) (λ_ _=>rfl)) (j0.mono (λb hb=>hsN.1 b hb) (λ_ _=>rfl)) (j1.mono (λb hb=>hsN.1 b hb) (λ_ _=>rfl)) (j2.mono (λb hb=>hsN.1 b hb) (λ_ _=>rfl)) (j3.mono (λb hb=>hsN.1 b hb) (λ_ _=>rfl)) (j4.mono (λb hb=>hsN.1 b hb) (λ_ _=>rfl))) cg) λzo zp zq w7 zr b6 p=>?_
          obtain⟨rfl,w8⟩:=p
          exact AD ⟨b6.siz,λb hb=>b6.same b hb⟩ O
         refine AQ.cons O ?_ ?_
         ·
          intro mq hh o
          intro j5 j6 zs j7
          have hsN:=o.st c
          obtain rfl:j5= .bool true:=Eq.trans j6 (congrArg Value.bool ai)
          cases j7
          exact LF.q 1 (QF.pick O O O (AE (AD (Ap.refl _) O)))
         refine AQ.cons O ?_ ?_
         ·
          intro mq hh o
          intro zt j8
          have hsN:=o.st c
          cases j8
          exact LF.q 1 (QF.as_ O O (AE (AD (Ap.refl _) O)))
         exact trivial
        intro zu b7 zv j9
        have c2:=SN.st c b7
        cases j9
        exact LF.nil (kp [0] O) (WF.nil (λaa ww hf hw=>⟨_,_,hf.sub (kp [0] O),hw,c2,(SN.ext c.1 b7),trivial⟩))
  rintro aa ww ⟨zw,zx,hf,hw,c3,ka,_⟩
  refine WF.run ?_ hf hw
  clear hf hw ww aa
  refine WF.ret (λaa ww hf hw=>?_)
  have c4:=c3.sel [] 7 O
  cases E
  have c5:=e4.trans (e8.trans (kc.trans (dt.trans (b8.trans (b9.trans (ca.trans (cb.trans (cc.trans (cd.trans (au.trans (Y.trans (C.trans (D.trans (F.trans (G.trans (u.trans (y.trans (z.trans (j.trans (g.trans (s.trans (k.trans (d.trans ka)))))))))))))))))))))))
  exact CS hf hw O O c5 ⟨O,c4⟩
end Go.Proofs.YtibidnaedddfdaaGreat
