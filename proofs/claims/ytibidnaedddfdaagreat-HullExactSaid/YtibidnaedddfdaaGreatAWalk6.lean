import Derived.Test.YtibidnaedddfdaaGreatAWalk5
namespace Go.Proofs.YtibidnaedddfdaaGreat
open Go.RowKit
set_option linter.unusedVariables false
set_option linter.unusedSimpArgs false
set_option maxRecDepth 10000
set_option maxHeartbeats 2000000
variable {N:Nat}{S:Nat→Prop}{L:List HP}{h:Ad}
theorem IF (hs:St S L h) {b:Value}{i:AF}(d:Rd S h AK b i) {c:Value}{j:AF}(g:Rd S h AK c j) {r:Bool}(E:Fi N i j=some r):
 BP Tryz.prog 14 #[b,c] S h (λv S' h'=>v= .bool r∧St S' (L) h'):=by
 refine Ac (l:=[b,c]) 10 Tryz.func14 O Tryz.ntmps14 O λB=>?_
 rw[Fi] at E
 refine WF.seq (WF.rl (LF.boxp O d (λe=>by cases e) O hs λX Y Z t C D=>?_))
 have F:=g.mono C
 refine LF.boxp O F (λe=>by cases e) O t λq8 S9 G a k m=>LF.q 1 (QF.as_ O O (AE (LF.nil (kp [3,2] O) (WF.seq (WF.rc (.inr ⟨mo,by kernel_rfl⟩) a ?_)))))
 have u:=D.mono k
 refine QF.ld Ak a.1 O u Ag (λe=>by cases e) O λH w=>QF.ld Ak a.1 O m Ag (λe=>by cases e) O λI x=>?_
 obtain⟨J,n,E⟩:=bd E
 refine Af O O O Tk O (λh' o=>JJ (St.all h') (w.mono (o.all a.1)) (x.mono (o.all a.1)) n) λy=>?_
 obtain⟨K,M⟩:=y
 refine QF.ld Ak a.1 O m Ag (λe=>by cases e) O λQ z=>?_
 obtain⟨rfl,⟨U,V⟩⟩:=AK.ex z
 refine QF.eqs O O M3 O O O O (QF.as_ O O (Ai (kp [4] O) λW p A=>WF.ret (λaa ww hf hw=>?_)))
 cases E
 have s:=C.trans (k.trans A)
 exact CS hf hw O O s ⟨O,p⟩
theorem Lp (hs:St S L h) {m:Value}{b:AX}(J:Rd S h A0 m b) {s:Value}{k:AT}(K:Rd S h Ab s k) {r:Bool}(E:F2 N b k=some r):
 BP Tryz.prog 47 #[m,s] S h (λv S' h'=>v= .bool r∧St S' (L) h'):=by
 refine Ac (l:=[m,s]) 61 Tryz.func47 O Tryz.ntmps47 O λB=>?_
 rw[F2] at E
 refine WF.seq (WF.rl (LF.boxp O J (λe=>by cases e) O hs λq1 S2 h3 bg e5 k6=>?_))
 have k7:=K.mono e5
 refine LF.boxp O k7 (λe=>by cases e) O bg λq8 S9 cm Q M bh=>LF.q 1 (QF.as_ O O (AE (LF.nil (kp [3,2] O) (WF.seq (WF.rl (LF.q 3 ?_))))))
 have ag:=k6.mono M
 refine QF.fa O ag BZ FW O λcn bi=>QF.ldi Aa Q.1 O bi AN O λah=>QF.bld (cs:=[.int .i64 0,.int .i64 b.Positions]) Ga O O O (AE (LF.al EL O Q λco cp ai w=>Aj (vs:=[.int .i64 0,.int .i64 b.Positions]) O O O O Ag O ai .head O λcq d y=>LF.nil (kp [5,3,2] O) (WF.seq (WF.seq (WF.rc (.inl O) d ?_)))))
 have z:=bh.mono (w.trans y)
 refine QF.fa O z AT.f_Pos He O λcr bj=>QF.ld Ak d.1 O bj Ag (λe=>by cases e) O λct bk=>?_
 obtain⟨bl,aj,E⟩:=bd E
 refine AZ O O O P5 O (λh' o=>Gb (St.all h') (bk.mono (o.all d.1)) aj) (QF.not O O (QF.mv O O ?_))
 obtain⟨ak,g,E⟩:=bd E
 refine QF.cutv 6 21 (.bool ak) ?_ ?_
 ·
  cases am:(!bl)
  ·
   have g:=Aw am g
   refine QF.gy O O O (QF.fa O z AT.f_Pos He O λcu bm=>QF.gy O O O (QF.ld Ak d.1 O bm Ag (λe=>by cases e) O λcv bn=>QF.gy O O O (QF.ldo (vs:=[.int .i64 0,.int .i64 b.Positions]) Ak d O mh O O Ag O O (QF.gy O O O ?_))))
   obtain⟨cw,an,g⟩:=bd g
   refine AZ O O O Tu O (λh' o=>IF (St.all h') (bn.mono (o.all d.1)) (AK.mk (x:=(⟨0,b.Positions⟩:AF)) ⟨(iq (n:=0) O),ah⟩) an) (QF.gy O O O (QF.not O O (QF.pick O O O ?_)))
   cases g
   exact AH O
  ·
   have g:=Av am g
   cases g
   exact AL O O
 refine QF.mv O O ?_
 obtain⟨bo,i,E⟩:=bd E
 refine QF.cutv 6 28 (.bool bo) ?_ ?_
 ·
  cases ao:ak
  ·
   have i:=Aw ao i
   refine QF.gy O O O (QF.ldo (vs:=[.int .i64 0,.int .i64 b.Positions]) Ak d O mh O O Ag O O (QF.gy O O O (QF.fa O z AT.f_Target NK O λcx bp=>QF.gy O O O (QF.ldi Ak d.1 O bp AN O λbq=>QF.gy O O O ?_))))
   obtain⟨cy,ap,i⟩:=bd i
   refine AZ O O O Nu O (λh' o=>F9 (St.all h') (AK.mk (x:=(⟨0,b.Positions⟩:AF)) ⟨(iq (n:=0) O),ah⟩) bq ap) (QF.gy O O O (QF.not O O (QF.pick O O O ?_)))
   cases i
   exact AH O
  ·
   have i:=Av ao i
   cases i
   exact AL O O
 refine Ai (kp [28,3,2] O) λcz U u=>WF.if_ O (λW=>?_) (λW=>?_)
 ·
  have E:=Av W E
  refine WF.seq (WF.rp (.inl O) (QF.as_ O O (AA (kp [4] O) (WF.ret (λaa ww hf hw=>?_)))))
  have aq:=U.drop .head
  cases E
  have ar:=e5.trans (M.trans (w.trans (y.trans u)))
  exact CS hf hw O O ar ⟨O,aq⟩
 ·
  have E:=Aw W E
  refine WF.skip (WF.seq (WF.rl ?_))
  obtain⟨j,au,E⟩:=bd E
  refine LF.callb O O O JF O U (C5 (St.all _) (iq (n:=0) O) au) λc0 c1 c2 av A c3 p=>?_
  obtain⟨rfl,⟨br,bt⟩,b0⟩:=p
  obtain⟨t,aw,E⟩:=bd E
  refine LF.callb O O O JF O av (C5 (St.all _) (iq (n:=1) O) aw) λc4 c5 c6 ax C c7 p=>?_
  obtain⟨rfl,⟨bu,bv⟩,b1⟩:=p
  refine LF.al EL O ax λc8 c9 ay D=>LF.al EL O ay λda db az F=>Aj (vs:=[.int .i64 j.Lo,.int .i64 j.Hi]) O O O O Ag O az (.tail .head) O λdc a0 G=>Aj (vs:=[.int .i64 t.Lo,.int .i64 t.Hi]) O O O O Ag O a0 .head O λdd a H=>LF.nil (kp [7,6,3,2] O) (WF.seq (WF.seq (WF.rp (.inl O) ?_)))
  have a1:=w.trans (y.trans (u.trans (A.trans (C.trans (D.trans (F.trans (G.trans H)))))))
  have a2:=ag.mono a1
  refine QF.fa O a2 AX.f_Kind Ck O λde bw=>QF.ldi Aa a.1 O bw AN O λdf=>QF.neq O O O (QF.mv O O (QF.cutv 4 38 (.bool ((decide (b.Kind≠5))&&(decide (b.Kind≠3)))) ?_ ?_))
  ·
   cases dg:(decide (b.Kind≠5))
   ·exact AL O O
   ·exact QF.gy O O O (QF.fa O a2 AX.f_Kind Ck O λdh bx=>QF.gy O O O (QF.ldi Aa a.1 O bx AN O λdi=>QF.gy O O O (QF.neq O O O (QF.pick O O O (AH O)))))
  refine AA (kp [38,7,6,3] O) (WF.if_ O (λX=>?_) (λX=>?_))
  ·
   have E:=Av X E
   refine WF.seq (WF.rp (.inl O) ?_)
   have a3:=u.trans (A.trans (C.trans (D.trans (F.trans (G.trans H)))))
   have bz:=z.mono a3
   refine QF.fa O bz AT.f_Open Hd O λdj a4=>QF.ld Aa a.1 O a4 Ag (λe=>by cases e) O λb2 a5=>QF.ldo (vs:=[.int .i64 j.Lo,.int .i64 j.Hi]) Aa a O (mt mh) O O Ag O O ?_
   obtain⟨rfl,⟨b3,b4⟩⟩:=AK.ex a5
   refine QF.eqs O O M3 O O O O (QF.as_ O O (AA (kp [4] O) (WF.ret (λaa ww hf hw=>?_))))
   have Y:=a.sel [] 3 O
   cases E
   have Z:=e5.trans (M.trans (w.trans (y.trans (u.trans (A.trans (C.trans (D.trans (F.trans (G.trans H)))))))))
   exact CS hf hw O O Z ⟨O,Y⟩
  ·
   have E:=Aw X E
   refine WF.skip (WF.seq (WF.rc (.inr ⟨mo,by kernel_rfl⟩) a ?_))
   have ab:=u.trans (A.trans (C.trans (D.trans (F.trans (G.trans H)))))
   have I:=z.mono ab
   refine QF.fa O I AT.f_Open Hd O λb5 a6=>QF.ld Ak a.1 O a6 Ag (λe=>by cases e) O λb6 a7=>QF.ldo (vs:=[.int .i64 j.Lo,.int .i64 j.Hi]) Ak a O (mt mh) O O Ag O O ?_
   obtain⟨rfl,⟨b7,b8⟩⟩:=AK.ex a7
   refine QF.eqs O O M3 O O O O (QF.mv O O (QF.cutv 5 52 (.bool ((MX k.Open.v j.v)||(MX k.Open.v t.v))) ?_ ?_))
   ·
    cases b9:(MX k.Open.v j.v)
    ·
     refine QF.gy O O O (QF.fa O I AT.f_Open Hd O λca a8=>QF.gy O O O (QF.ld Ak a.1 O a8 Ag (λe=>by cases e) O λcb a9=>QF.gy O O O (QF.ldo (vs:=[.int .i64 t.Lo,.int .i64 t.Hi]) Ak a O mh O O Ag O O (QF.gy O O O ?_))))
     obtain⟨rfl,⟨cc,cd⟩⟩:=AK.ex a9
     exact QF.eqs O O M3 O O O O (QF.pick O O O (AH O))
    ·exact AL O O
   refine QF.mv O O ?_
   obtain⟨ba,c,E⟩:=bd E
   refine QF.cutv 7 60 (.bool ba) ?_ ?_
   ·
    cases V:((MX k.Open.v j.v)||(MX k.Open.v t.v))
    ·
     have c:=Aw V c
     refine QF.gy O O O (QF.fa O I AT.f_Open Hd O λce bb=>QF.gy O O O (QF.ld Ak a.1 O bb Ag (λe=>by cases e) O λcf bc=>QF.gy O O O (QF.ldo (vs:=[.int .i64 j.Lo,.int .i64 j.Hi]) Ak a O (mt mh) O O Ag O O (QF.gy O O O (QF.ldo (vs:=[.int .i64 t.Lo,.int .i64 t.Hi]) Ak a O mh O O Ag O O (QF.gy O O O ?_))))))
     obtain⟨cg,ac,c⟩:=bd c
     refine Af O O O Tk O (λh' o=>JJ (St.all h') (AK.mk (x:=j) ⟨br,bt⟩) (AK.mk (x:=t) ⟨bu,bv⟩) ac) λbe=>?_
     obtain⟨ch,ci⟩:=be
     refine QF.gy O O O ?_
     obtain⟨rfl,⟨cj,ck⟩⟩:=AK.ex bc
     refine QF.eqs O O M3 O O O O (QF.pick O O O ?_)
     cases c
     exact AH O
    ·
     have c:=Av V c
     cases c
     exact AL O O
   refine QF.as_ O O (Ai (kp [4] O) λcl ad bf=>WF.ret (λaa ww hf hw=>?_))
   have ae:=ad.sel [] 3 O
   cases E
   have af:=e5.trans (M.trans (w.trans (y.trans (u.trans (A.trans (C.trans (D.trans (F.trans (G.trans (H.trans bf))))))))))
   exact CS hf hw O O af ⟨O,ae⟩
theorem Ft (hs:St S L h) {H:Value}{i:AJ}(az:Rd S h A3 H i) {I:Value}{b:Aq}(a0:Rd S h Bj I b) {r:Bool}(E:Gy N i b=some r):
 BP Tryz.prog 11 #[H,I] S h (λv S' h'=>v= .bool r∧St S' (L) h'):=by
 refine Ac (l:=[H,I]) 128 Tryz.func11 O Tryz.ntmps11 O λB=>?_
 rw[Gy] at E
 refine WF.seq (WF.rl (LF.boxp O az (λe=>by cases e) O hs λq1 S2 h3 dz e5 k6=>?_))
 have k7:=a0.mono e5
 refine LF.boxp O k7 (λe=>by cases e) O dz λq8 S9 fx s C ae=>LF.q 1 (QF.as_ O O (AE (LF.nil (kp [3,2] O) (WF.seq (WF.seq (WF.rp (.inl O) (QF.fa O ae Aq.f_Hour Ia O λfy d0=>QF.ldi Aa s.1 O d0 AN O λfz=>QF.lss O O O (QF.mv O O (QF.cutv 4 19 (.bool ((decide (b.Hour<0))||(decide (16777216<b.Hour)))) ?_ ?_)))))))))
 ·
  cases f0:(decide (b.Hour<0))
  ·exact QF.gy O O O (QF.fa O ae Aq.f_Hour Ia O λf1 d1=>QF.gy O O O (QF.ldi Aa s.1 O d1 AN O λf2=>QF.gy O O O (QF.gtr O O O (QF.pick O O O (AH O)))))
  ·exact AL O O
 refine QF.mv O O (QF.cutv 8 28 (.bool (((decide (b.Hour<0))||(decide (16777216<b.Hour)))||(decide ((↑b.Vol.length:Int)≠(↑i.Places.length:Int))))) ?_ ?_)
 ·
  cases f3:((decide (b.Hour<0))||(decide (16777216<b.Hour)))
  ·
   refine QF.gy O O O (QF.fa O ae Aq.f_Vol GX O λf4 d2=>QF.gy O O O (QF.ldl Aa s.1 O d2 Fq O λf5 d3=>QF.gy O O O (QF.len O d3 EM O λf6=>QF.gy O O O ?_)))
   have d4:=k6.mono C
   exact QF.fa O d4 Ah Bs O λf7 d5=>QF.gy O O O (QF.ldl Aa s.1 O d5 EY O λf8 d6=>QF.gy O O O (QF.len O d6 Dk O λf9=>QF.gy O O O (QF.neq O O O (QF.pick O O O (AH O)))))
  ·exact AL O O
 refine QF.mv O O (QF.cutv 8 37 (.bool ((((decide (b.Hour<0))||(decide (16777216<b.Hour)))||(decide ((↑b.Vol.length:Int)≠(↑i.Places.length:Int))))||(decide ((↑b.Links.length:Int)≠(↑i.Links.length:Int))))) ?_ ?_)
 ·
  cases ga:(((decide (b.Hour<0))||(decide (16777216<b.Hour)))||(decide ((↑b.Vol.length:Int)≠(↑i.Places.length:Int))))
  ·
   refine QF.gy O O O (QF.fa O ae Aq.f_Links FV O λgb d7=>QF.gy O O O (QF.ldl Aa s.1 O d7 H9 O λgc d8=>QF.gy O O O (QF.len O d8 Il O λge=>QF.gy O O O ?_)))
   have d9:=k6.mono C
   exact QF.fa O d9 AJ.f_Links EE O λgf ea=>QF.gy O O O (QF.ldl Aa s.1 O ea G7 O λgg eb=>QF.gy O O O (QF.len O eb FT O λgh=>QF.gy O O O (QF.neq O O O (QF.pick O O O (AH O)))))
  ·exact AL O O
 refine AA (kp [37,3,2] O) (WF.if_ O (λbc=>?_) (λbc=>?_))
 ·
  have E:=Av bc E
  refine WF.seq (WF.rp (.inl O) (QF.as_ O O (AA (kp [4] O) (WF.ret (λaa ww hf hw=>?_)))))
  cases E
  exact CS hf hw O O (e5.trans C) ⟨O,s⟩
 ·
  have E:=Aw bc E
  refine WF.skip (WF.seq (WF.rl (LF.q 1 (QF.bld (cs:=[.int .i64 0,.int .i64 1125899906842624]) Ga O O O (AE (LF.al EL O s λad gi cd J=>Aj (vs:=[.int .i64 0,.int .i64 1125899906842624]) O O O O Ag O cd .head O λbe a2 K=>LF.nil (kp [5,3,2] O) (WF.seq (WF.seq (WF.rp (.inl O) ?_)))))))))
  have ce:=ae.mono (J.trans K)
  refine QF.fa O ce Aq.f_Vol GX O λgj ec=>QF.ldl Aa a2.1 O ec Fq O λed cf=>QF.len O cf EM O λgk=>QF.mv O O (AA (kp [42,41,40,5,3,2] O) (WF.blockJ (λa w=>IV B S9 be (128,[]) a w [(5,.pointer (some ⟨ad,0,none⟩)),(3,q8),(2,q1)] (Bx ad 51 [.int .i64 0,.int .i64 1125899906842624]::L) λ_ _=>D6 N i b=some r) ?_ ?_))
  ·
   refine WF.loopF (λn1=>λa w=>∃(af:Int),IV B S9 be (128,[]) a w [(41,.int .i64 (↑b.Vol.length:Int)),(40,ed),(5,.pointer (some ⟨ad,0,none⟩)),(3,q8),(2,q1),(42,.int .i64 af)] (Bx ad 51 [.int .i64 0,.int .i64 1125899906842624]::L) λ_ _=>AB af∧DN N b (D6 N i b) n1 af=some r) N ?_ ?_ ?_
   ·
    intro aa ww hf hw
    exact⟨0,_,_,hf.sub (kp [41,40,5,3,2,42] O),hw,a2,(BO.refl S9 be),(iq (n:=0) O),E⟩
   ·
    rintro aa ww ⟨_,_,_,_,_,_,_,_,E⟩
    rw[DN] at E;cases E
   ·
    rintro n1 aa ww ⟨af,gl,gm,hf,hw,ag,a1,gp,E⟩
    refine WF.run ?_ hf hw
    clear hf hw ww aa
    rw[DN] at E
    refine WF.seq (WF.rp (.inl O) (QF.lss O O O (AA (kp [43,41,40,5,3,2,42] O) (WF.seq (WF.if_ O (λbf=>?_) (λbf=>?_))))))
    ·
     have E:=Av bf E
     refine WF.skip (WF.seq (WF.block (WF.seq (WF.rl (LF.q 2 ?_)))))
     have ee:=cf.mono' a1
     obtain⟨M,cg,E⟩:=bd E
     refine QF.ixe O O ee EM cg O λgq ef=>QF.ld Aa ag.1 O ef Ag (λe=>by cases e) O λgr eg=>AE (LF.al EL O ag λgs gu ch bg=>?_)
     have eh:=eg.mono bg
     obtain⟨rfl,⟨ci,cj⟩⟩:=AK.ex eh
     refine Aj (vs:=[.int .i64 M.Lo,.int .i64 M.Hi]) O O O O Ag O ch .head O λgv X ck=>LF.nil (kp [7,41,40,5,3,2,42] O) (WF.seq (WF.rc (.inl O) X (QF.ldo (vs:=[.int .i64 M.Lo,.int .i64 M.Hi]) Ak X O mh O O Ag O O ?_)))
     obtain⟨ei,cl,E⟩:=bd E
     refine AZ O O O P5 O (λh' o=>Gb (St.all h') (AK.mk (x:=M) ⟨ci,cj⟩) cl) (QF.not O O (QF.mv O O ?_))
     obtain⟨ej,t,E⟩:=bd E
     refine QF.cutv 5 54 (.bool ej) ?_ ?_
     ·
      cases cm:(!ei)
      ·
       have t:=Aw cm t
       refine QF.gy O O O (QF.ldo (vs:=[.int .i64 M.Lo,.int .i64 M.Hi]) Ak X O mh O O Ag O O (QF.gy O O O (QF.ldo (vs:=[.int .i64 0,.int .i64 1125899906842624]) Ak X O (mt mh) O O Ag O O (QF.gy O O O ?_))))
       obtain⟨gw,cn,t⟩:=bd t
       refine AZ O O O Tu O (λh' o=>IF (St.all h') (AK.mk (x:=M) ⟨ci,cj⟩) (AK.mk (x:=(⟨0,1125899906842624⟩:AF)) ⟨(iq (n:=0) O),(iq (n:=1125899906842624) O)⟩) cn) (QF.gy O O O (QF.not O O (QF.pick O O O ?_)))
       cases t
       exact AH O
      ·
       have t:=Av cm t
       cases t
       exact AL O O
     refine Ai (kp [54,41,40,5,3,2,42] O) λgx a3 co=>WF.if_ O (λbh=>?_) (λbh=>?_)
     ·
      have E:=Av bh E
      refine WF.seq (WF.rp (.inl O) (QF.as_ O O (AA (kp [4] O) (WF.ret (λaa ww hf hw=>?_)))))
      have cp:=a3.sel [] 2 O
      cases E
      have cq:=e5.trans (C.trans (J.trans (K.trans (a1.trans (bg.trans (ck.trans co))))))
      exact CS hf hw O O cq ⟨O,cp⟩
     ·
      have E:=Aw bh E
      refine WF.skip (Al (WF.rp (.inl O) (QF.addw O O O (QF.mv O O (AA (kp [42,41,40,5,3,2] O) (WF.nil (λaa ww hf hw=>?_)))))))
      have cr:=a3.sel [1] 1 O
      have ct:=a1.trans (bg.trans (ck.trans co))
      exact⟨(Ar (af+1)),_,_,hf.sub (kp [41,40,5,3,2,42] O),hw,cr,ct,(Au _),E⟩
    ·
     have E:=Aw bf E
     refine WF.exit O (λaa ww hf hw=>?_)
     exact⟨_,_,hf.sub (kp [5,3,2] O),hw,ag,a1,E⟩
  ·
   rintro aa ww ⟨bi,ah,hf,hw,ai,y,E⟩
   refine WF.run ?_ hf hw
   clear hf hw ww aa
   rw[D6] at E
   refine WF.seq (WF.seq (WF.rp (.inl O) ?_))
   have Y:=ce.mono y
   refine QF.fa O Y Aq.f_Queue HG O λek cu=>QF.ldl Aa ai.1 O cu J4 O λcv a4=>QF.len O a4 EZ O λel=>QF.mv O O (AA (kp [59,58,57,5,3,2] O) (WF.blockJ (λa w=>IV B bi ah (128,[]) a w [(3,q8),(2,q1)] (L) λ_ _=>D5 N i b=some r) ?_ ?_))
   ·
    refine WF.loopF (λn3=>λa w=>∃(D:Int),IV B bi ah (128,[]) a w [(58,.int .i64 (↑b.Queue.length:Int)),(57,cv),(5,.pointer (some ⟨ad,0,none⟩)),(3,q8),(2,q1),(59,.int .i64 D)] (Bx ad 51 [.int .i64 0,.int .i64 1125899906842624]::L) λ_ _=>AB D∧DM N i b (D5 N i b) n3 D=some r) N ?_ ?_ ?_
    ·
     intro aa ww hf hw
     exact⟨0,_,_,hf.sub (kp [58,57,5,3,2,59] O),hw,ai,(BO.refl bi ah),(iq (n:=0) O),E⟩
    ·
     rintro aa ww ⟨_,_,_,_,_,_,_,_,E⟩
     rw[DM] at E;cases E
    ·
     rintro n3 aa ww ⟨D,em,en,hf,hw,V,u,eo,E⟩
     refine WF.run ?_ hf hw
     clear hf hw ww aa
     rw[DM] at E
     refine WF.seq (WF.rp (.inl O) (QF.lss O O O (AA (kp [60,58,57,5,3,2,59] O) (WF.seq (WF.if_ O (λaj=>?_) (λaj=>?_))))))
     ·
      have E:=Av aj E
      refine WF.skip (WF.seq (WF.block (WF.seq (WF.rl (LF.q 3 (QF.mv O O ?_))))))
      have cw:=a4.mono' u
      obtain⟨c,bj,E⟩:=bd E
      refine QF.ixe O O cw EZ bj O λep cx=>QF.ld Aa V.1 O cx Ij (λe=>by cases e) O λeq cy=>AE (LF.al Qg O V λer es bk z=>LF.q 1 (QF.as_ O O (AE ?_)))
      have cz:=cy.mono z
      obtain⟨rfl,⟨c0,a5,ak,am⟩⟩:=BE.ex cz
      refine Aj (vs:=[.int .i64 c.At,.int .i64 c.To,.int .i64 c.Vol.Lo,.int .i64 c.Vol.Hi]) O O O O Ij O bk .head O λet g F=>LF.nil (kp [8,9,58,57,5,3,2,59] O) (WF.seq (WF.seq (WF.rc (.inl O) g (QF.fao O JA O (QF.ldo (vs:=[.int .i64 c.Vol.Lo,.int .i64 c.Vol.Hi]) Ak g O mh O O Ag O O ?_)))))
      obtain⟨c1,bl,E⟩:=bd E
      refine AZ O O O P5 O (λh' o=>Gb (St.all h') (AK.mk (x:=c.Vol) ⟨ak,am⟩) bl) (QF.not O O (QF.mv O O ?_))
      obtain⟨G,j,E⟩:=bd E
      refine QF.cutv 6 74 (.bool G) ?_ ?_
      ·
       cases a6:(!c1)
       ·
        have j:=Aw a6 j
        refine QF.gy O O O (QF.fao O JA O (QF.gy O O O (QF.ldo (vs:=[.int .i64 c.Vol.Lo,.int .i64 c.Vol.Hi]) Ak g O mh O O Ag O O (QF.gy O O O (QF.ldo (vs:=[.int .i64 0,.int .i64 1125899906842624]) Ak g O (mt mh) O O Ag O O (QF.gy O O O ?_))))))
        obtain⟨eu,bm,j⟩:=bd j
        refine AZ O O O Tu O (λh' o=>IF (St.all h') (AK.mk (x:=c.Vol) ⟨ak,am⟩) (AK.mk (x:=(⟨0,1125899906842624⟩:AF)) ⟨(iq (n:=0) O),(iq (n:=1125899906842624) O)⟩) bm) (QF.gy O O O (QF.not O O (QF.pick O O O ?_)))
        cases j
        exact AH O
       ·
        have j:=Av a6 j
        cases j
        exact AL O O
      refine QF.mv O O (QF.cutv 5 80 (.bool (G||(decide (c.Vol.Hi≤0)))) ?_ ?_)
      ·
       cases ev:G
       ·exact QF.gy O O O (QF.fao O JA O (QF.gy O O O (QF.fao O CT O (QF.gy O O O (AI Ak g O mh O AN O (QF.gy O O O (QF.leq O O O (QF.pick O O O (AH O)))))))))
       ·exact AL O O
      refine QF.mv O O (QF.cutv 6 87 (.bool ((G||(decide (c.Vol.Hi≤0)))||(decide (c.At<b.Hour)))) ?_ ?_)
      ·
       cases ew:(G||(decide (c.Vol.Hi≤0)))
       ·
        refine QF.gy O O O (QF.fao O ME O (QF.gy O O O (AI Ak g O mh O AN O (QF.gy O O O ?_))))
        have bn:=u.trans (z.trans F)
        have c2:=Y.mono bn
        exact QF.fa O c2 Aq.f_Hour Ia O λey c3=>QF.gy O O O (QF.ldi Ak g.1 O c3 AN O λez=>QF.gy O O O (QF.lss O O O (QF.pick O O O (AH O))))
       ·exact AL O O
      refine QF.mv O O ?_
      obtain⟨c4,k,E⟩:=bd E
      refine QF.cutv 8 96 (.bool c4) ?_ ?_
      ·
       cases a7:((G||(decide (c.Vol.Hi≤0)))||(decide (c.At<b.Hour)))
       ·
        have k:=Aw a7 k
        refine QF.gy O O O (QF.fao O LD O (QF.gy O O O (AI Ak g O mh O AN O (QF.gy O O O ?_))))
        have bo:=C.trans (J.trans (K.trans (y.trans (u.trans (z.trans F)))))
        have c5:=k6.mono bo
        refine QF.fa O c5 Ah Bs O λe0 c6=>QF.gy O O O (QF.ldl Ak g.1 O c6 EY O λe1 c7=>QF.gy O O O (QF.len O c7 Dk O λc8=>QF.gy O O O ?_))
        obtain⟨e2,bp,k⟩:=bd k
        refine AZ O O O P4 O (λh' o=>Gc (St.all h') a5 (IJ c8) bp) (QF.gy O O O (QF.not O O (QF.pick O O O ?_)))
        cases k
        exact AH O
       ·
        have k:=Av a7 k
        cases k
        exact AL O O
      refine Ai (kp [96,8,9,58,57,5,3,2,59] O) λe3 p Z=>WF.if_ O (λan=>?_) (λan=>?_)
      ·
       have E:=Av an E
       refine WF.seq (WF.rp (.inl O) (QF.as_ O O (AA (kp [4] O) (WF.ret (λaa ww hf hw=>?_)))))
       have bq:=p.sel [] 2 O
       cases E
       have br:=e5.trans (C.trans (J.trans (K.trans (y.trans (u.trans (z.trans (F.trans Z)))))))
       exact CS hf hw O O br ⟨O,bq⟩
      ·
       have E:=Aw an E
       refine WF.skip (WF.seq (WF.rc (.inr ⟨mo,by kernel_rfl⟩) p (QF.mv O O (QF.gtr O O O (QF.mv O O ?_)))))
       obtain⟨c9,d,E⟩:=bd E
       refine QF.cutv 10 109 (.bool c9) ?_ ?_
       ·
        cases a8:(decide (0<D))
        ·
         have d:=Aw a8 d
         cases d
         exact AL O O
        ·
         have d:=Av a8 d
         refine QF.gy O O O ?_
         have bt:=u.trans (z.trans (F.trans Z))
         have da:=Y.mono bt
         refine QF.fa O da Aq.f_Queue HG O λe4 db=>QF.gy O O O (QF.ldl Ak p.1 O db J4 O λe6 dc=>QF.gy O O O (QF.mv O O (QF.gy O O O (QF.subw O O O (QF.gy O O O ?_)))))
         obtain⟨e7,bu,d⟩:=bd d
         refine QF.ixe O O dc EZ bu O λe8 dd=>QF.gy O O O (QF.ld Ak p.1 O dd Ij (λe=>by cases e) O λe9 de=>QF.gy O O O (QF.ldo (vs:=[.int .i64 c.At,.int .i64 c.To,.int .i64 c.Vol.Lo,.int .i64 c.Vol.Hi]) Ak p O mh O O Ij O O (QF.gy O O O ?_)))
         obtain⟨fb,bv,d⟩:=bd d
         refine Af O O O VN O (λh' o=>Kq (St.all h') (de.mono (o.all p.1)) (BE.mk (x:=c) ⟨c0,a5,ak,am⟩) bv) λdf=>?_
         have fc:=df
         refine QF.gy O O O (QF.geq O O O (QF.pick O O O ?_))
         cases d
         exact AH O
       refine Ai (kp [109,58,57,5,3,2,59] O) λfd ao a9=>WF.if_ O (λap=>?_) (λap=>?_)
       ·
        have E:=Av ap E
        refine WF.seq (WF.rp (.inl O) (QF.as_ O O (AA (kp [4] O) (WF.ret (λaa ww hf hw=>?_)))))
        have bw:=ao.sel [] 2 O
        cases E
        have bx:=e5.trans (C.trans (J.trans (K.trans (y.trans (u.trans (z.trans (F.trans (Z.trans a9))))))))
        exact CS hf hw O O bx ⟨O,bw⟩
       ·
        have E:=Aw ap E
        refine WF.skip (Al (WF.rp (.inl O) (QF.addw O O O (QF.mv O O (AA (kp [59,58,57,5,3,2] O) (WF.nil (λaa ww hf hw=>?_)))))))
        have bz:=ao.sel [1] 1 O
        have b0:=u.trans (z.trans (F.trans (Z.trans a9)))
        exact⟨(Ar (D+1)),_,_,hf.sub (kp [58,57,5,3,2,59] O),hw,bz,b0,(Au _),E⟩
     ·
      have E:=Aw aj E
      refine WF.exit O (λaa ww hf hw=>?_)
      have b1:=V.drop .head
      exact⟨_,_,hf.sub (kp [3,2] O),hw,b1,u,E⟩
   ·
    rintro aa ww ⟨aq,ar,hf,hw,au,ab,E⟩
    refine WF.run ?_ hf hw
    clear hf hw ww aa
    rw[D5] at E
    refine WF.seq (WF.seq (WF.rp (.inl O) ?_))
    have dg:=Y.mono ab
    refine QF.fa O dg Aq.f_Links FV O λfe dh=>QF.ldl Aa au.1 O dh H9 O λdi ba=>QF.len O ba Il O λff=>QF.mv O O (AA (kp [114,113,112,2] O) (WF.blockJ (λa w=>IV B aq ar (128,[]) a w [] (L) λ_ _=>Ek N=some r) ?_ ?_))
    ·
     refine WF.loopF (λn5=>λa w=>∃(Q:Int),IV B aq ar (128,[]) a w [(113,.int .i64 (↑b.Links.length:Int)),(112,di),(2,q1),(114,.int .i64 Q)] (L) λ_ _=>AB Q∧DL N i b (Ek N) n5 Q=some r) N ?_ ?_ ?_
     ·
      intro aa ww hf hw
      exact⟨0,_,_,hf.sub (kp [113,112,2,114] O),hw,au,(BO.refl aq ar),(iq (n:=0) O),E⟩
     ·
      rintro aa ww ⟨_,_,_,_,_,_,_,_,E⟩
      rw[DL] at E;cases E
     ·
      rintro n5 aa ww ⟨Q,fg,fh,hf,hw,W,U,fi,E⟩
      refine WF.run ?_ hf hw
      clear hf hw ww aa
      rw[DL] at E
      refine WF.seq (WF.rp (.inl O) (QF.lss O O O (AA (kp [115,113,112,2,114] O) (WF.seq (WF.if_ O (λav=>?_) (λav=>?_))))))
      ·
       have E:=Av av E
       refine WF.skip (WF.seq (WF.block (WF.seq (WF.rl (LF.q 3 (QF.mv O O ?_))))))
       have dj:=ba.mono' U
       obtain⟨m,b2,E⟩:=bd E
       refine QF.ixe O O dj Il b2 O λfj dk=>QF.ld Aa W.1 O dk GT (λe=>by cases e) O λfk dl=>AE (LF.al PN O W λfl fm b3 ac=>LF.q 1 (QF.as_ O O (AE ?_)))
       have dm:=dl.mono ac
       obtain⟨rfl,⟨dn,dp,dq,dr,ds⟩⟩:=Ab.ex dm
       refine Aj (vs:=[.int .i64 m.Pos.Lo,.int .i64 m.Pos.Hi,.int .i64 m.Target,.int .i64 m.Open.Lo,.int .i64 m.Open.Hi]) O O O O GT O b3 .head O λfn A aw=>LF.nil (kp [10,11,113,112,2,114] O) (WF.seq (WF.rc (.inr ⟨mo,by kernel_rfl⟩) A ?_))
       have b4:=C.trans (J.trans (K.trans (y.trans (ab.trans (U.trans (ac.trans aw))))))
       have dt:=k6.mono b4
       refine QF.fa O dt AJ.f_Links EE O λfo du=>QF.ldl Ak A.1 O du G7 O λfp dv=>QF.mv O O ?_
       obtain⟨fq,b5,E⟩:=bd E
       refine QF.ixe O O dv FT b5 O λfr dw=>QF.ld Ak A.1 O dw C3 (λe=>by cases e) O λfs dx=>QF.ldo (vs:=[.int .i64 m.Pos.Lo,.int .i64 m.Pos.Hi,.int .i64 m.Target,.int .i64 m.Open.Lo,.int .i64 m.Open.Hi]) Ak A O mh O O GT O O ?_
       obtain⟨ft,b6,E⟩:=bd E
       refine AZ O O O X9 O (λh' o=>Lp (St.all h') (dx.mono (o.all A.1)) (Ab.mk (x:=m) ⟨dn,dp,dq,dr,ds⟩) b6) (QF.not O O (Ai (kp [126,113,112,2,114] O) λfu ax bb=>WF.if_ O (λay=>?_) (λay=>?_)))
       ·
        have E:=Av ay E
        refine WF.seq (WF.rp (.inl O) (QF.as_ O O (AA (kp [4] O) (WF.ret (λaa ww hf hw=>?_)))))
        have b7:=ax.drop .head
        cases E
        have b8:=e5.trans (C.trans (J.trans (K.trans (y.trans (ab.trans (U.trans (ac.trans (aw.trans bb))))))))
        exact CS hf hw O O b8 ⟨O,b7⟩
       ·
        have E:=Aw ay E
        refine WF.skip (Al (WF.rp (.inl O) (QF.addw O O O (QF.mv O O (AA (kp [114,113,112,2] O) (WF.nil (λaa ww hf hw=>?_)))))))
        have b9:=ax.drop .head
        have ca:=U.trans (ac.trans (aw.trans bb))
        exact⟨(Ar (Q+1)),_,_,hf.sub (kp [113,112,2,114] O),hw,b9,ca,(Au _),E⟩
      ·
       have E:=Aw av E
       refine WF.exit O (λaa ww hf hw=>?_)
       exact⟨_,_,hf.sub KI,hw,W,U,E⟩
    ·
     rintro aa ww ⟨fv,fw,hf,hw,cb,dy,E⟩
     refine WF.run ?_ hf hw
     clear hf hw ww aa
     rw[Ek] at E
     refine WF.seq (WF.rp (.inl O) (QF.as_ O O (AA (kp [4] O) (WF.ret (λaa ww hf hw=>?_)))))
     cases E
     have cc:=e5.trans (C.trans (J.trans (K.trans (y.trans (ab.trans dy)))))
     exact CS hf hw O O cc ⟨O,cb⟩
theorem Ki (hs:St S L h) {a:Value}{c:AF}(b:Rd S h AK a c) {r:Int}(E:Gu N c=some r):
 BP Tryz.prog 61 #[a] S h (λv S' h'=>v= .int .i64 r∧AB r∧St S' (L) h'):=by
 refine Ac (l:=[a]) 8 Tryz.func61 O Tryz.ntmps61 O λB=>?_
 rw[Gu] at E
 refine WF.seq (WF.rl (LF.boxp O b (λe=>by cases e) O hs λA C D d t s=>LF.q 1 (QF.as_ O O (AE (LF.nil (kp [1] O) (WF.seq (WF.rc (.inl O) d (QF.fa O s AF.f_Hi CT O λF u=>QF.ldi Ak d.1 O u AN O λw=>QF.fa O s AF.f_Lo Cj O λx j=>QF.ldi Ak d.1 O j AN O λk=>?_))))))))
 obtain⟨y,g,E⟩:=bd E
 refine Af O O O H2 O (λh' o=>CW (St.all h') w k g) λm=>?_
 have n:=m
 refine QF.as_ O O (Ai (kp [2] O) λz i p=>WF.ret (λaa ww hf hw=>?_))
 cases E
 exact CS hf hw O O (t.trans p) ⟨O,n,i⟩
theorem Fh (hs:St S L h) {c:Value}{b:Aq}(u:Rd S h Bj c b) {r:Int}(E:Gg N b=some r):
 BP Tryz.prog 20 #[c] S h (λv S' h'=>v= .int .i64 r∧AB r∧St S' (L) h'):=by
 refine Ac (l:=[c]) 34 Tryz.func20 O Tryz.ntmps20 O λB=>?_
 rw[Gg] at E
 refine WF.seq (WF.rl (LF.boxp O u (λe=>by cases e) O hs λq1 S2 h3 X e5 k6=>LF.q 1 (QF.as_ O O (AE (LF.nil (kp [1] O) (WF.seq (WF.rp (.inl O) (QF.as_ O O (AA (kp [3,1] O) (WF.seq (WF.seq (WF.rp (.inl O) ?_))))))))))))
 refine QF.fa O k6 Aq.f_Vol GX O λq7 k8=>QF.ldl Aa X.1 O k8 Fq O λv9 Y=>QF.len O Y EM O λbu=>QF.mv O O (AA (kp [11,10,9,3,1] O) (WF.blockJ (λa w=>∃(g:Int),IV B S2 h3 (34,[]) a w [(1,q1),(3,.int .i64 g)] (L) λ_ _=>AB g∧Dr N b g=some r) ?_ ?_))
 ·
  refine WF.loopF (λn1=>λa w=>∃(i:Int) (j:Int),IV B S2 h3 (34,[]) a w [(10,.int .i64 (↑b.Vol.length:Int)),(9,v9),(1,q1),(3,.int .i64 i),(11,.int .i64 j)] (L) λ_ _=>AB i∧AB j∧Dq N b (Dr N b) n1 i j=some r) N ?_ ?_ ?_
  ·
   intro aa ww hf hw
   exact⟨0,0,_,_,hf.sub (kp [10,9,1,3,11] O),hw,X,(BO.refl S2 h3),(iq (n:=0) O),(iq (n:=0) O),E⟩
  ·
   rintro aa ww ⟨_,_,_,_,_,_,_,_,_,_,E⟩
   rw[Dq] at E;cases E
  ·
   rintro n1 aa ww ⟨i,j,bv,bw,hf,hw,k,D,Z,bx,E⟩
   refine WF.run ?_ hf hw
   clear hf hw ww aa
   rw[Dq] at E
   refine WF.seq (WF.rp (.inl O) (QF.lss O O O (AA (kp [12,10,9,1,3,11] O) (WF.seq (WF.if_ O (λF=>?_) (λF=>?_))))))
   ·
    have E:=Av F E
    refine WF.skip (WF.seq (WF.block (WF.seq (WF.rl (LF.q 2 ?_)))))
    have a0:=Y.mono' D
    obtain⟨m,ab,E⟩:=bd E
    refine QF.ixe O O a0 EM ab O λbz a1=>QF.ld Aa k.1 O a1 Ag (λe=>by cases e) O λb0 a2=>AE (LF.al EL O k λb1 b2 ac ad=>?_)
    have a3:=a2.mono ad
    obtain⟨rfl,⟨a4,a5⟩⟩:=AK.ex a3
    refine Aj (vs:=[.int .i64 m.Lo,.int .i64 m.Hi]) O O O O Ag O ac .head O λb3 z a6=>LF.nil (kp [5,10,9,1,3,11] O) (WF.rc (.inl O) z (QF.mv O O (QF.ldo (vs:=[.int .i64 m.Lo,.int .i64 m.Hi]) Ak z O mh O O Ag O O ?_)))
    obtain⟨b4,ae,E⟩:=bd E
    refine Af O O O VM O (λh' o=>Ki (St.all h') (AK.mk (x:=m) ⟨a4,a5⟩) ae) λa7=>?_
    have a8:=a7
    obtain⟨a9,af,E⟩:=bd E
    refine Af O O O KA O (λh' o=>Cs (St.all h') Z a8 af) λba=>?_
    have bb:=ba
    refine QF.as_ O O (Ai (kp [3,10,9,1,11] O) λb5 ag bc=>Al (WF.rp (.inl O) (QF.addw O O O (QF.mv O O (AA (kp [11,3,10,9,1] O) (WF.nil (λaa ww hf hw=>?_)))))))
    have ah:=ag.drop .head
    have ai:=D.trans (ad.trans (a6.trans bc))
    exact⟨a9,(Ar (j+1)),_,_,hf.sub (kp [10,9,1,3,11] O),hw,ah,ai,bb,(Au _),E⟩
   ·
    have E:=Aw F E
    refine WF.exit O (λaa ww hf hw=>?_)
    exact⟨i,_,_,hf.sub (kp [1,3] O),hw,k,D,Z,E⟩
 ·
  rintro aa ww ⟨g,G,H,hf,hw,A,aj,be,E⟩
  refine WF.run ?_ hf hw
  clear hf hw ww aa
  rw[Dr] at E
  refine WF.seq (WF.seq (WF.rp (.inl O) ?_))
  have bf:=k6.mono aj
  refine QF.fa O bf Aq.f_Queue HG O λb6 bg=>QF.ldl Aa A.1 O bg J4 O λbh ak=>QF.len O ak EZ O λb7=>QF.mv O O (AA (kp [23,22,21,3] O) (WF.blockJ (λa w=>∃(y:Int),IV B G H (34,[]) a w [(3,.int .i64 y)] (L) λ_ _=>AB y∧EW N y=some r) ?_ ?_))
  ·
   refine WF.loopF (λn3=>λa w=>∃(p:Int) (s:Int),IV B G H (34,[]) a w [(22,.int .i64 (↑b.Queue.length:Int)),(21,bh),(3,.int .i64 p),(23,.int .i64 s)] (L) λ_ _=>AB p∧AB s∧Dp N b (EW N) n3 p s=some r) N ?_ ?_ ?_
   ·
    intro aa ww hf hw
    exact⟨g,0,_,_,hf.sub (kp [22,21,3,23] O),hw,A,(BO.refl G H),be,(iq (n:=0) O),E⟩
   ·
    rintro aa ww ⟨_,_,_,_,_,_,_,_,_,_,E⟩
    rw[Dp] at E;cases E
   ·
    rintro n3 aa ww ⟨p,s,b8,b9,hf,hw,t,I,am,ca,E⟩
    refine WF.run ?_ hf hw
    clear hf hw ww aa
    rw[Dp] at E
    refine WF.seq (WF.rp (.inl O) (QF.lss O O O (AA (kp [24,22,21,3,23] O) (WF.seq (WF.if_ O (λJ=>?_) (λJ=>?_))))))
    ·
     have E:=Av J E
     refine WF.skip (WF.seq (WF.block (WF.seq (WF.rl (LF.q 2 ?_)))))
     have bi:=ak.mono' I
     obtain⟨d,an,E⟩:=bd E
     refine QF.ixe O O bi EZ an O λcb bj=>QF.ld Aa t.1 O bj Ij (λe=>by cases e) O λcc bk=>AE (LF.al Qg O t λcd ce ao ap=>?_)
     have bl:=bk.mono ap
     obtain⟨rfl,⟨cf,cg,bm,bn⟩⟩:=BE.ex bl
     refine Aj (vs:=[.int .i64 d.At,.int .i64 d.To,.int .i64 d.Vol.Lo,.int .i64 d.Vol.Hi]) O O O O Ij O ao .head O λch C bo=>LF.nil (kp [7,22,21,3,23] O) (WF.rc (.inl O) C (QF.mv O O (QF.fao O JA O (QF.ldo (vs:=[.int .i64 d.Vol.Lo,.int .i64 d.Vol.Hi]) Ak C O mh O O Ag O O ?_))))
     obtain⟨ci,aq,E⟩:=bd E
     refine Af O O O VM O (λh' o=>Ki (St.all h') (AK.mk (x:=d.Vol) ⟨bm,bn⟩) aq) λar=>?_
     have au:=ar
     obtain⟨av,K,E⟩:=bd E
     refine Af O O O KA O (λh' o=>Cs (St.all h') am au K) λaw=>?_
     have ax:=aw
     refine QF.as_ O O (Ai (kp [3,22,21,23] O) λbq M ay=>Al (WF.rp (.inl O) (QF.addw O O O (QF.mv O O (AA (kp [23,3,22,21] O) (WF.nil (λaa ww hf hw=>?_)))))))
     have Q:=M.drop .head
     have U:=I.trans (ap.trans (bo.trans ay))
     exact⟨av,(Ar (s+1)),_,_,hf.sub (kp [22,21,3,23] O),hw,Q,U,ax,(Au _),E⟩
    ·
     have E:=Aw J E
     refine WF.exit O (λaa ww hf hw=>?_)
     exact⟨p,_,_,hf.sub (kp [3] O),hw,t,I,am,E⟩
  ·
   rintro aa ww ⟨y,br,bt,hf,hw,V,az,bp,E⟩
   refine WF.run ?_ hf hw
   clear hf hw ww aa
   rw[EW] at E
   refine WF.seq (WF.rp (.inl O) (QF.mv O O (QF.as_ O O (AA (kp [2] O) (WF.ret (λaa ww hf hw=>?_))))))
   cases E
   have W:=e5.trans (aj.trans az)
   exact CS hf hw O O W ⟨O,bp,V⟩
theorem Dn (hs:St S L h) {b:Value}{c:(List Int)}(d:Sl S h AW.int b c) {r:Int}(E:Cw N c=some r):
 BP Tryz.prog 30 #[b] S h (λv S' h'=>v= .int .i64 r∧AB r∧St S' (L) h'):=by
 refine Ac (l:=[b]) 17 Tryz.func30 O Tryz.ntmps30 O λB=>?_
 rw[Cw] at E
 refine WF.seq (WF.rp (.inl O) (QF.as_ O O (AA (kp [0] O) (WF.seq (WF.rp (.inl O) (QF.as_ O O (AA (kp [3,0] O) (WF.seq (WF.seq (WF.rp (.inl O) (QF.mv O O (QF.len O d Ea O λZ=>QF.mv O O ?_))))))))))))
 refine AA (kp [8,7,6,3] O) (WF.blockJ (λa w=>∃(u:Int),IV B S h (17,[]) a w [(3,.int .i64 u)] (L) λ_ _=>AB u∧FL N u=some r) ?_ ?_)
 ·
  refine WF.loopF (λH=>λa w=>∃(m:Int) (g:Int),IV B S h (17,[]) a w [(7,.int .i64 (↑c.length:Int)),(6,b),(3,.int .i64 m),(8,.int .i64 g)] (L) λ_ _=>AB m∧AB g∧D4 N c (FL N) H m g=some r) N ?_ ?_ ?_
  ·
   intro aa ww hf hw
   exact⟨0,0,_,_,hf.sub (kp [7,6,3,8] O),hw,hs,(BO.refl S h),(iq (n:=0) O),(iq (n:=0) O),E⟩
  ·
   rintro aa ww ⟨_,_,_,_,_,_,_,_,_,_,E⟩
   rw[D4] at E;cases E
  ·
   rintro H aa ww ⟨m,g,J,K,hf,hw,i,j,I,M,E⟩
   refine WF.run ?_ hf hw
   clear hf hw ww aa
   rw[D4] at E
   refine WF.seq (WF.rp (.inl O) (QF.lss O O O (AA (kp [9,7,6,3,8] O) (WF.seq (WF.if_ O (λk=>?_) (λk=>?_))))))
   ·
    have E:=Av k E
    refine WF.skip (WF.seq (WF.block (WF.seq (WF.rp (.inl O) ?_))))
    have x:=d.mono' j
    obtain⟨Q,p,E⟩:=bd E
    refine QF.ixe O O x Ea p O λU y=>QF.ldi Aa i.1 O y AN O λz=>QF.as_ O O (AA (kp [5,7,6,3,8] O) (WF.rc (.inl O) i (QF.mv O O (QF.mv O O ?_))))
    obtain⟨A,q,E⟩:=bd E
    refine Af O O O KA O (λh' o=>Cs (St.all h') I z q) λC=>?_
    have D:=C
    refine QF.as_ O O (Ai (kp [3,7,6,8] O) λV s F=>Al (WF.rp (.inl O) (QF.addw O O O (QF.mv O O (AA (kp [8,3,7,6] O) (WF.nil (λaa ww hf hw=>?_)))))))
    exact⟨A,(Ar (g+1)),_,_,hf.sub (kp [7,6,3,8] O),hw,s,(j.trans F),D,(Au _),E⟩
   ·
    have E:=Aw k E
    refine WF.exit O (λaa ww hf hw=>?_)
    exact⟨m,_,_,hf.sub (kp [3] O),hw,i,j,I,E⟩
 ·
  rintro aa ww ⟨u,W,X,hf,hw,t,G,Y,E⟩
  refine WF.run ?_ hf hw
  clear hf hw ww aa
  rw[FL] at E
  refine WF.seq (WF.rp (.inl O) (QF.mv O O (QF.as_ O O (AA (kp [2] O) (WF.ret (λaa ww hf hw=>?_))))))
  cases E
  exact CS hf hw O O G ⟨O,Y,t⟩
theorem MC (hs:St S L h) {a:Bool}{r:Int}(E:Is N a=some r):
 BP Tryz.prog 68 #[.bool a] S h (λv S' h'=>v= .int .i64 r∧AB r∧St S' (L) h'):=by
 refine Ac (l:=[.bool a]) 4 Tryz.func68 O Tryz.ntmps68 O λB=>?_
 rw[Is] at E
 refine WF.seq (WF.rp (.inl O) (QF.as_ O O (AA (kp [0] O) (WF.seq (WF.seq (WF.rp (.inl O) (QF.mv O O (AA (kp [3] O) (WF.if_ O (λb=>?_) (λb=>?_))))))))))
 ·
  have E:=Av b E
  refine WF.seq (WF.rp (.inl O) (QF.as_ O O (AA (kp [2] O) (WF.ret (λaa ww hf hw=>?_)))))
  cases E
  exact CS hf hw O O (BO.refl S h) ⟨O,(iq (n:=1) O),hs⟩
 ·
  have E:=Aw b E
  refine WF.skip (WF.seq (WF.rp (.inl O) (QF.as_ O O (AA (kp [2] O) (WF.ret (λaa ww hf hw=>?_))))))
  cases E
  exact CS hf hw O O (BO.refl S h) ⟨O,(iq (n:=0) O),hs⟩
theorem MB (hs:St S L h) {p:Value}{j:Aq}(ah:Rd S h Bj p j) {s:Value}{H:AV}(ai:Rd S h CA s H) {r:Bool}(E:GI N j H=some r):
 BP Tryz.prog 74 #[p,s] S h (λv S' h'=>v= .bool r∧St S' (L) h'):=by
 refine Ac (l:=[p,s]) 76 Tryz.func74 O Tryz.ntmps74 O λB=>?_
 rw[GI] at E
 refine WF.seq (WF.rl (LF.boxp O ah (λe=>by cases e) O hs λq1 S2 h3 co e5 k6=>?_))
 have k7:=ai.mono e5
 refine LF.boxp O k7 (λe=>by cases e) O co λq8 S9 dy bu aj cp=>LF.q 1 (QF.as_ O O (AE (LF.nil (kp [3,2] O) (WF.seq (WF.rl (Qc (K:=0) (E:=0) O bu (λk:AM=>Value.agg (AM.v k).toArray) OY λt a2 an M=>LF.q 1 (QF.as_ O O (AE (LF.nil (kp [5,3,2] O) (WF.seq (WF.seq ?_)))))))))))
 refine WF.rp (.inl O) ?_
 have cq:=cp.mono M
 refine QF.fa O cq AV.f_Queue GA O λdz cr=>QF.ldl Aa an.1 O cr Ik O λct bv=>QF.len O bv Hp O λd0=>QF.mv O O (AA (kp [19,18,17,5,2] O) (WF.blockJ (λa w=>∃(i:(List (AM×Int))),IV B S9 a2 (76,[]) a w [(5,.map (some t)),(2,q1)] (MP (λk:AM=>Value.agg (AM.v k).toArray) OY t i::L) λ_ _=>CM N j i=some r) ?_ ?_))
 ·
  refine WF.loopF (λn1=>λa w=>∃(Q:Int) (U:(List (AM×Int))),IV B S9 a2 (76,[]) a w [(18,.int .i64 (↑H.Queue.length:Int)),(17,ct),(5,.map (some t)),(2,q1),(19,.int .i64 Q)] (MP (λk:AM=>Value.agg (AM.v k).toArray) OY t U::L) λ_ _=>AB Q∧CJ N H (CM N j) n1 Q U=some r) N ?_ ?_ ?_
  ·
   intro aa ww hf hw
   exact⟨0,([]:(List (AM×Int))),_,_,hf.sub (kp [18,17,5,2,19] O),hw,an,(BO.refl S9 a2),(iq (n:=0) O),E⟩
  ·
   rintro aa ww ⟨_,_,_,_,_,_,_,_,_,E⟩
   rw[CJ] at E;cases E
  ·
   rintro n1 aa ww ⟨Q,U,d1,d2,hf,hw,V,a3,d3,E⟩
   refine WF.run ?_ hf hw
   clear hf hw ww aa
   rw[CJ] at E
   refine WF.seq (WF.rp (.inl O) (QF.lss O O O (AA (kp [20,18,17,5,2,19] O) (WF.seq (WF.if_ O (λa4=>?_) (λa4=>?_))))))
   ·
    have E:=Av a4 E
    refine WF.skip (WF.seq (WF.block (WF.seq (WF.rl (LF.q 2 ?_)))))
    have cu:=bv.mono' a3
    obtain⟨c,bw,E⟩:=bd E
    refine QF.ixe O O cu Hp bw O λd4 cv=>QF.ld Aa V.1 O cv Kc (λe=>by cases e) O λd5 cw=>AE (LF.al Qi O V λd6 d7 bx bz=>?_)
    have cx:=cw.mono bz
    obtain⟨b0,rfl,d8,d9,b1⟩:=GD.ex cx
    refine LF.st (vs:=[.int .i64 c.At,.int .i64 c.To,b0]) (cs':=[.int .i64 c.At,.int .i64 c.To,b0]) O O O (AC O (AC O (AC b1.one C6))) Kc O bx .head O O λea W b2=>LF.nil (kp [7,18,17,5,2,19] O) (WF.seq (WF.rl (LF.q 5 (QF.fao O LG O (AI Aa W O mh O AN O (QF.fao O LE O (AI Aa W O mh O AN O (QF.bld (cs:=[.int .i64 c.At,.int .i64 c.To]) ST O O O (AE (LF.al QA O W λeb ec b3 b4=>Aj (vs:=[.int .i64 c.At,.int .i64 c.To]) O O O O Kf O b3 .head O λed m b5=>LF.nil (kp [8,7,18,17,5,2,19] O) ?_))))))))))
    refine EC 9 mo (by kernel_rfl) O m (QF.mv O O (QF.ldo (vs:=[.int .i64 c.At,.int .i64 c.To]) Ak m O mh O O Kf O O (QF.mv O O (QF.ldo (vs:=[.int .i64 c.At,.int .i64 c.To]) Ak m O mh O O Kf O O (PD (k0:=(⟨c.At,c.To⟩:AM)) (z:=0) Ak m (mt (mt mh)) O O Oa MA (λw=>(Wt w).trans (by rw[R6])) O O (QF.fao O MF O (AI Ak m O (mt mh) O GV O ?_)))))))
    have b6:=b2.trans (b4.trans b5)
    have cy:=b1.mono' b6
    obtain⟨ee,b7,E⟩:=bd E
    refine Af O O O MQ O (λh' o=>Dn (St.all h') (cy.mono' (o.all m.1)) b7) λcz=>?_
    have c0:=cz
    obtain⟨b8,b9,E⟩:=bd E
    refine Af O O O KA O (λh' o=>Cs (St.all h') (Au _) c0 b9) λc1=>?_
    have c2:=c1
    refine C1 λef ca c3=>Qb (k0:=(⟨c.At,c.To⟩:AM)) (x:=b8) ca (.tail (.tail .head)) O O (congrArg some (Qk c2)).symm Oa MA λeg cb c4=>LF.nil (kp [18,17,5,2,19] O) (Al (WF.rp (.inl O) (QF.addw O O O (QF.mv O O (AA (kp [19,18,17,5,2] O) (WF.nil (λaa ww hf hw=>?_)))))))
    have cc:=cb.sel [2] 2 O
    have cd:=a3.trans (bz.trans (b2.trans (b4.trans (b5.trans (c3.trans c4)))))
    exact⟨(Ar (Q+1)),(IH (λk:AM=>Value.agg (AM.v k).toArray) U (⟨c.At,c.To⟩:AM) b8),_,_,hf.sub (kp [18,17,5,2,19] O),hw,cc,cd,(Au _),E⟩
   ·
    have E:=Aw a4 E
    refine WF.exit O (λaa ww hf hw=>?_)
    exact⟨U,_,_,hf.sub (kp [5,2] O),hw,V,a3,E⟩
 ·
  rintro aa ww ⟨i,a5,eh,hf,hw,ce,ak,E⟩
  refine WF.run ?_ hf hw
  clear hf hw ww aa
  rw[CM] at E
  refine WF.seq (WF.rl (Qc (K:=0) (E:=0) O ce (λk:AM=>Value.agg (AM.v k).toArray) Value.bool λJ a6 ao am=>LF.q 1 (QF.as_ O O (AE (LF.nil (kp [9,5,2] O) (WF.seq (WF.seq (WF.rp (.inl O) ?_))))))))
  have cf:=aj.trans (M.trans (ak.trans am))
  have c5:=k6.mono cf
  refine QF.fa O c5 Aq.f_Queue HG O λei c6=>QF.ldl Aa ao.1 O c6 J4 O λc7 cg=>QF.len O cg EZ O λej=>QF.mv O O (AA (kp [42,41,40,9,5] O) (WF.blockJ (λa w=>∃(A:(List (AM×Bool))),IV B a5 a6 (76,[]) a w [(9,.map (some J)),(5,.map (some t))] (MP (λk:AM=>Value.agg (AM.v k).toArray) Value.bool J A::MP (λk:AM=>Value.agg (AM.v k).toArray) OY t i::L) λ_ _=>CL N i A=some r) ?_ ?_))
  ·
   refine WF.loopF (λn3=>λa w=>∃(X:Int) (Y:(List (AM×Bool))),IV B a5 a6 (76,[]) a w [(41,.int .i64 (↑j.Queue.length:Int)),(40,c7),(9,.map (some J)),(5,.map (some t)),(42,.int .i64 X)] (MP (λk:AM=>Value.agg (AM.v k).toArray) Value.bool J Y::MP (λk:AM=>Value.agg (AM.v k).toArray) OY t i::L) λ_ _=>AB X∧CI N j i (CL N i) n3 X Y=some r) N ?_ ?_ ?_
   ·
    intro aa ww hf hw
    exact⟨0,([]:(List (AM×Bool))),_,_,hf.sub (kp [41,40,9,5,42] O),hw,ao,(BO.refl a5 a6),(iq (n:=0) O),E⟩
   ·
    rintro aa ww ⟨_,_,_,_,_,_,_,_,_,E⟩
    rw[CI] at E;cases E
   ·
    rintro n3 aa ww ⟨X,Y,c8,c9,hf,hw,C,I,ek,E⟩
    refine WF.run ?_ hf hw
    clear hf hw ww aa
    rw[CI] at E
    refine WF.seq (WF.rp (.inl O) (QF.lss O O O (AA (kp [43,41,40,9,5,42] O) (WF.seq (WF.if_ O (λZ=>?_) (λZ=>?_))))))
    ·
     have E:=Av Z E
     refine WF.skip (WF.seq (WF.block (WF.seq (WF.rl (LF.q 2 ?_)))))
     have ch:=cg.mono' I
     obtain⟨b,a7,E⟩:=bd E
     refine QF.ixe O O ch EZ a7 O λda ci=>QF.ld Aa C.1 O ci Ij (λe=>by cases e) O λdb cj=>AE (LF.al Qg O C λdc dd a8 ab=>?_)
     have ck:=cj.mono ab
     obtain⟨rfl,⟨de,df,cl,cm⟩⟩:=BE.ex ck
     refine Aj (vs:=[.int .i64 b.At,.int .i64 b.To,.int .i64 b.Vol.Lo,.int .i64 b.Vol.Hi]) O O O O Ij O a8 .head O λdg D ap=>LF.nil (kp [11,41,40,9,5,42] O) (WF.seq (WF.rl (LF.q 5 (QF.fao O ME O (AI Aa D O mh O AN O (QF.fao O LD O (AI Aa D O mh O AN O (QF.bld (cs:=[.int .i64 b.At,.int .i64 b.To]) ST O O O (AE (LF.al QA O D λdh di a9 aq=>Aj (vs:=[.int .i64 b.At,.int .i64 b.To]) O O O O Kf O a9 .head O λdj u ar=>LF.nil (kp [12,11,41,40,9,5,42] O) ?_))))))))))
     refine WF.seq (WF.seq (WF.rc (.inr ⟨mo,by kernel_rfl⟩) u (QF.fao O JA O (QF.ldo (vs:=[.int .i64 b.Vol.Lo,.int .i64 b.Vol.Hi]) Ak u O (mt mh) O O Ag O O (QF.mv O O (QF.ldo (vs:=[.int .i64 b.At,.int .i64 b.To]) Ak u O mh O O Kf O O (PD (k0:=(⟨b.At,b.To⟩:AM)) (z:=0) Ak u (mt (mt (mt mh))) O O Oa MA (λw=>(Wt w).trans (by rw[R6])) O O ?_)))))))
     obtain⟨dk,ba,E⟩:=bd E
     refine AZ O O O Nu O (λh' o=>F9 (St.all h') (AK.mk (x:=b.Vol) ⟨cl,cm⟩) (Au _) ba) (QF.not O O (Ai (kp [57,12,41,40,9,5,42] O) λdl F au=>WF.if_ O (λac=>?_) (λac=>?_)))
     ·
      have E:=Av ac E
      refine WF.seq (WF.rp (.inl O) (QF.as_ O O (AA (kp [4] O) (WF.ret (λaa ww hf hw=>?_)))))
      have bb:=F.sel [] 4 O
      cases E
      have bc:=e5.trans (aj.trans (M.trans (ak.trans (am.trans (I.trans (ab.trans (ap.trans (aq.trans (ar.trans au)))))))))
      exact CS hf hw O O bc ⟨O,bb⟩
     ·
      have E:=Aw ac E
      refine WF.skip (WF.rl (LF.q 2 (QF.mv O O (QF.ldo (vs:=[.int .i64 b.At,.int .i64 b.To]) Aa F O mh O O Kf O O (AE (Qb (k0:=(⟨b.At,b.To⟩:AM)) (x:=true) F (.tail (.tail .head)) O O O SB MA λdm be cn=>LF.nil (kp [41,40,9,5,42] O) (Al (WF.rp (.inl O) (QF.addw O O O (QF.mv O O (AA (kp [42,41,40,9,5] O) (WF.nil (λaa ww hf hw=>?_)))))))))))))
      have bf:=be.sel [2,2] 2 O
      have bg:=I.trans (ab.trans (ap.trans (aq.trans (ar.trans (au.trans cn)))))
      exact⟨(Ar (X+1)),(IH (λk:AM=>Value.agg (AM.v k).toArray) Y (⟨b.At,b.To⟩:AM) true),_,_,hf.sub (kp [41,40,9,5,42] O),hw,bf,bg,(Au _),E⟩
    ·
     have E:=Aw Z E
     refine WF.exit O (λaa ww hf hw=>?_)
     exact⟨Y,_,_,hf.sub (kp [9,5] O),hw,C,I,E⟩
  ·
   rintro aa ww ⟨A,av,dn,hf,hw,bh,aw,E⟩
   refine WF.run ?_ hf hw
   clear hf hw ww aa
   rw[CL] at E
   refine WF.seq (WF.seq (WF.rl (LF.q 1 (QF.mv O O (AE ?_)))))
   have bi:=bh.pick (.tail .head)
   refine Rw bi O Oa O λad ax bj ay=>LF.nil (kp [62,9] O) (WF.block (WF.loopF (λn1=>λa w=>∃(g:List (AM×Int)) (S':Nat→Prop) (h':Ad),Fr (76,[]) a [(62,(.pointer (some ⟨ad,0,none⟩))),(9,.map (some J))]∧Wd B h' w∧St S' (MI (λk:AM=>Value.agg (AM.v k).toArray) OY t ad i g::MP (λk:AM=>Value.agg (AM.v k).toArray) Value.bool J A::L) h'∧BO av ax S' h'∧g.length<n1∧cond (List.all g (λe=>(CH N A e).isNone)) (E9 N) (some false)=some r) (i.length+1) ?_ ?_ ?_))
   ·
    intro aa ww hf hw
    exact⟨i,_,_,hf.sub (kp [62,9] O),hw,bj,(BO.refl av ax),Nat.lt_succ_self _,E⟩
   ·
    rintro aa ww ⟨_,_,_,_,_,_,_,hlt,_⟩
    exact absurd hlt (Nat.not_lt_zero _)
   ·
    rintro n1 aa ww ⟨g,dp,dq,hf,hw,ae,af,hlt,E⟩
    refine WF.run ?_ hf hw
    clear hf hw ww aa
    refine WF.seq (WF.rl (UG ae O O (λG=>?_) (λd dr ds dt G bk az hen=>?_)))
    ·
     subst G
     have E:E9 N=some r:=E
     rw[E9] at E
     have bl:=ae.miMP
     refine LF.q 1 (QF.ext O O O (AE (LF.nil (kp [64,62,9] O) (WF.seq (WF.ifF O (Ja O (WF.seq (WF.rp (.inl O) (QF.as_ O O (AA (kp [4] O) (WF.ret (λaa ww hf hw=>?_))))))))))))
     have bm:=bl.sel [] 2 O
     cases E
     have bn:=e5.trans (aj.trans (M.trans (ak.trans (am.trans (aw.trans (ay.trans af))))))
     exact CS hf hw O O bn ⟨O,bm⟩
    ·
     subst G
     have E:=Ri (f:=CH N A) (λ_ _ hy=>Ti hy) E
     rw[CH] at E
     simp only[UZ,Option.some_or,Option.none_or] at E
     refine LF.q 1 (QF.ext O O O (AE (LF.nil (kp [64,62,9] O) (WF.seq (WF.ifT O (WF.skip (WF.block (WF.seq (WF.rl (LF.q 3 (Rv O hen O (QF.ext O O O (QF.ext O O O ?_)))))))))))))
     refine AE (LF.al QA O bk λdu dv bo a0=>Aj (vs:=[.int .i64 d.1.at_,.int .i64 d.1.to_]) O O O O Kf O bo .head O λdw y a1=>LF.q 1 (QF.as_ O O (AE (LF.nil (kp [14,13,62,9] O) (WF.seq (WF.rp (.inl O) (QF.mv O O (QF.ldo (vs:=[.int .i64 d.1.at_,.int .i64 d.1.to_]) Aa y O mh O O Kf O O (PD (k0:=d.1) (z:=false) Aa y (mt (mt mh)) O O SB MA Ws O O (QF.not O O (QF.mv O O ?_)))))))))))
     refine QF.cutv 3 75 (.bool ((!((HR (λk:AM=>Value.agg (AM.v k).toArray) A d.1).getD false))&&(decide ((Ar d.2)≠0)))) ?_ ?_
     ·
      cases dx:(!((HR (λk:AM=>Value.agg (AM.v k).toArray) A d.1).getD false))
      ·exact AL O O
      ·exact QF.gy O O O (QF.mv O O (QF.gy O O O (QF.neq O O O (QF.pick O O O (AH O)))))
     refine AA (kp [75,62,9] O) (WF.if_ O (λag=>?_) (λag=>?_))
     ·
      have E:=Av ag E
      refine WF.seq (WF.rp (.inl O) (QF.as_ O O (AA (kp [4] O) (WF.ret (λaa ww hf hw=>?_)))))
      have bp:=y.sel [] 3 O
      cases E
      have bq:=e5.trans (aj.trans (M.trans (ak.trans (am.trans (aw.trans (ay.trans (af.trans (az.trans (a0.trans a1)))))))))
      exact CS hf hw O O bq ⟨O,bp⟩
     ·
      have E:=Aw ag E
      refine WF.skip (Al (WF.nil (λaa ww hf hw=>?_)))
      have br:=y.sel [1,1] 1 O
      have bt:=af.trans (az.trans (a0.trans a1))
      exact⟨_,_,_,hf.sub (kp [62,9] O),hw,br,bt,(by simp only[List.length_append,List.length_cons] at hlt ⊢;omega),E⟩
end Go.Proofs.YtibidnaedddfdaaGreat
