import Derived.Test.YtibidnaedddfdaaGreatBWalk5
namespace Go.Proofs.YtibidnaedddfdaaGreat
open Go.RowKit
set_option linter.unusedVariables false
set_option linter.unusedSimpArgs false
set_option maxRecDepth 10000
set_option maxHeartbeats 2000000
variable {N:Nat}{S:Nat→Prop}{L:List HP}{h:Ac}
theorem Fv (hs:St S L h) {b:Value}{i:AF}(d:Rd S h AH b i) {c:Value}{j:AF}(g:Rd S h AH c j) {r:Bool}(E:EL N i j=some r):
 Bh Tryz.prog 14 #[b,c] S h (λv S' h'=>v= .bool r∧St S' (L) h'):=by
 refine Ag (l:=[b,c]) 10 Tryz.func14 O Tryz.ntmps14 O λB=>?_
 rw[EL] at E
 refine WF.seq (WF.rl (LF.boxp O d (λe=>by cases e) O hs λX Y Z t C D=>?_))
 have F:=g.mono C
 refine LF.boxp O F (λe=>by cases e) O t λq8 S9 G a k m=>LF.q 1 (QF.as_ O O (AE (LF.nil (kp [3,2] O) (WF.seq (WF.rc (.inr ⟨mo,by kernel_rfl⟩) a ?_)))))
 have u:=D.mono k
 refine QF.ld Ak a.1 O u Ad (λe=>by cases e) O λH w=>QF.ld Ak a.1 O m Ad (λe=>by cases e) O λI x=>?_
 obtain⟨J,n,E⟩:=bd E
 refine Ao O O O UX O (λh' o=>Iy (St.all h') (w.mono (o.all a.1)) (x.mono (o.all a.1)) n) λy=>?_
 obtain⟨K,M⟩:=y
 refine QF.ld Ak a.1 O m Ad (λe=>by cases e) O λQ z=>?_
 obtain⟨rfl,⟨U,V⟩⟩:=AH.ex z
 refine QF.eqs O O Mk O O O O (QF.as_ O O (Aq (kp [4] O) λW p A=>WF.ret (λaa ww hf hw=>?_)))
 cases E
 have s:=C.trans (k.trans A)
 exact DC hf hw O O s ⟨O,p⟩
theorem LN (hs:St S L h) {m:Value}{b:AT}(J:Rd S h A9 m b) {s:Value}{k:AS}(K:Rd S h Aa s k) {r:Bool}(E:Ek N b k=some r):
 Bh Tryz.prog 47 #[m,s] S h (λv S' h'=>v= .bool r∧St S' (L) h'):=by
 refine Ag (l:=[m,s]) 61 Tryz.func47 O Tryz.ntmps47 O λB=>?_
 rw[Ek] at E
 refine WF.seq (WF.rl (LF.boxp O J (λe=>by cases e) O hs λq1 S2 h3 bg e5 k6=>?_))
 have k7:=K.mono e5
 refine LF.boxp O k7 (λe=>by cases e) O bg λq8 S9 cm Q M bh=>LF.q 1 (QF.as_ O O (AE (LF.nil (kp [3,2] O) (WF.seq (WF.rl (LF.q 3 ?_))))))
 have ag:=k6.mono M
 refine QF.fa O ag B1 Fy O λcn bi=>QF.ldi Af Q.1 O bi AM O λah=>QF.bld (cs:=[.int .i64 0,.int .i64 b.Positions]) GH O O O (AE (LF.al EH O Q λco cp ai w=>Ai (vs:=[.int .i64 0,.int .i64 b.Positions]) O O O O Ad O ai .head O λcq d y=>LF.nil (kp [5,3,2] O) (WF.seq (WF.seq (WF.rc (.inl O) d ?_)))))
 have z:=bh.mono (w.trans y)
 refine QF.fa O z AS.f_Pos HF O λcr bj=>QF.ld Ak d.1 O bj Ad (λe=>by cases e) O λct bk=>?_
 obtain⟨bl,aj,E⟩:=bd E
 refine Ab O O O Nk O (λh' o=>Eo (St.all h') (bk.mono (o.all d.1)) aj) (QF.not O O (QF.mv O O ?_))
 obtain⟨ak,g,E⟩:=bd E
 refine QF.cutv 6 21 (.bool ak) ?_ ?_
 ·
  cases am:(!bl)
  ·
   have g:=A8 am g
   refine QF.gy O O O (QF.fa O z AS.f_Pos HF O λcu bm=>QF.gy O O O (QF.ld Ak d.1 O bm Ad (λe=>by cases e) O λcv bn=>QF.gy O O O (QF.ldo (vs:=[.int .i64 0,.int .i64 b.Positions]) Ak d O mh O O Ad O O (QF.gy O O O ?_))))
   obtain⟨cw,an,g⟩:=bd g
   refine Ab O O O QC O (λh' o=>Fv (St.all h') (bn.mono (o.all d.1)) (AH.mk (x:=(⟨0,b.Positions⟩:AF)) ⟨(iq (n:=0) O),ah⟩) an) (QF.gy O O O (QF.not O O (QF.pick O O O ?_)))
   cases g
   exact AJ O
  ·
   have g:=A7 am g
   cases g
   exact AL O O
 refine QF.mv O O ?_
 obtain⟨bo,i,E⟩:=bd E
 refine QF.cutv 6 28 (.bool bo) ?_ ?_
 ·
  cases ao:ak
  ·
   have i:=A8 ao i
   refine QF.gy O O O (QF.ldo (vs:=[.int .i64 0,.int .i64 b.Positions]) Ak d O mh O O Ad O O (QF.gy O O O (QF.fa O z AS.f_Target M2 O λcx bp=>QF.gy O O O (QF.ldi Ak d.1 O bp AM O λbq=>QF.gy O O O ?_))))
   obtain⟨cy,ap,i⟩:=bd i
   refine Ab O O O Ni O (λh' o=>Fk (St.all h') (AH.mk (x:=(⟨0,b.Positions⟩:AF)) ⟨(iq (n:=0) O),ah⟩) bq ap) (QF.gy O O O (QF.not O O (QF.pick O O O ?_)))
   cases i
   exact AJ O
  ·
   have i:=A7 ao i
   cases i
   exact AL O O
 refine Aq (kp [28,3,2] O) λcz U u=>WF.if_ O (λW=>?_) (λW=>?_)
 ·
  have E:=A7 W E
  refine WF.seq (WF.rp (.inl O) (QF.as_ O O (AA (kp [4] O) (WF.ret (λaa ww hf hw=>?_)))))
  have aq:=U.drop .head
  cases E
  have ar:=e5.trans (M.trans (w.trans (y.trans u)))
  exact DC hf hw O O ar ⟨O,aq⟩
 ·
  have E:=A8 W E
  refine WF.skip (WF.seq (WF.rl ?_))
  obtain⟨j,au,E⟩:=bd E
  refine LF.callb O O O It O U (Db (St.all _) (iq (n:=0) O) au) λc0 c1 c2 av A c3 p=>?_
  obtain⟨rfl,⟨br,bt⟩,b0⟩:=p
  obtain⟨t,aw,E⟩:=bd E
  refine LF.callb O O O It O av (Db (St.all _) (iq (n:=1) O) aw) λc4 c5 c6 ax C c7 p=>?_
  obtain⟨rfl,⟨bu,bv⟩,b1⟩:=p
  refine LF.al EH O ax λc8 c9 ay D=>LF.al EH O ay λda db az F=>Ai (vs:=[.int .i64 j.Lo,.int .i64 j.Hi]) O O O O Ad O az (.tail .head) O λdc a0 G=>Ai (vs:=[.int .i64 t.Lo,.int .i64 t.Hi]) O O O O Ad O a0 .head O λdd a H=>LF.nil (kp [7,6,3,2] O) (WF.seq (WF.seq (WF.rp (.inl O) ?_)))
  have a1:=w.trans (y.trans (u.trans (A.trans (C.trans (D.trans (F.trans (G.trans H)))))))
  have a2:=ag.mono a1
  refine QF.fa O a2 AT.f_Kind Di O λde bw=>QF.ldi Af a.1 O bw AM O λdf=>QF.neq O O O (QF.mv O O (QF.cutv 4 38 (.bool ((decide (b.Kind≠5))&&(decide (b.Kind≠3)))) ?_ ?_))
  ·
   cases dg:(decide (b.Kind≠5))
   ·exact AL O O
   ·exact QF.gy O O O (QF.fa O a2 AT.f_Kind Di O λdh bx=>QF.gy O O O (QF.ldi Af a.1 O bx AM O λdi=>QF.gy O O O (QF.neq O O O (QF.pick O O O (AJ O)))))
  refine AA (kp [38,7,6,3] O) (WF.if_ O (λX=>?_) (λX=>?_))
  ·
   have E:=A7 X E
   refine WF.seq (WF.rp (.inl O) ?_)
   have a3:=u.trans (A.trans (C.trans (D.trans (F.trans (G.trans H)))))
   have bz:=z.mono a3
   refine QF.fa O bz AS.f_Open HE O λdj a4=>QF.ld Af a.1 O a4 Ad (λe=>by cases e) O λb2 a5=>QF.ldo (vs:=[.int .i64 j.Lo,.int .i64 j.Hi]) Af a O (mt mh) O O Ad O O ?_
   obtain⟨rfl,⟨b3,b4⟩⟩:=AH.ex a5
   refine QF.eqs O O Mk O O O O (QF.as_ O O (AA (kp [4] O) (WF.ret (λaa ww hf hw=>?_))))
   have Y:=a.sel [] 3 O
   cases E
   have Z:=e5.trans (M.trans (w.trans (y.trans (u.trans (A.trans (C.trans (D.trans (F.trans (G.trans H)))))))))
   exact DC hf hw O O Z ⟨O,Y⟩
  ·
   have E:=A8 X E
   refine WF.skip (WF.seq (WF.rc (.inr ⟨mo,by kernel_rfl⟩) a ?_))
   have ab:=u.trans (A.trans (C.trans (D.trans (F.trans (G.trans H)))))
   have I:=z.mono ab
   refine QF.fa O I AS.f_Open HE O λb5 a6=>QF.ld Ak a.1 O a6 Ad (λe=>by cases e) O λb6 a7=>QF.ldo (vs:=[.int .i64 j.Lo,.int .i64 j.Hi]) Ak a O (mt mh) O O Ad O O ?_
   obtain⟨rfl,⟨b7,b8⟩⟩:=AH.ex a7
   refine QF.eqs O O Mk O O O O (QF.mv O O (QF.cutv 5 52 (.bool ((ML k.Open.v j.v)||(ML k.Open.v t.v))) ?_ ?_))
   ·
    cases b9:(ML k.Open.v j.v)
    ·
     refine QF.gy O O O (QF.fa O I AS.f_Open HE O λca a8=>QF.gy O O O (QF.ld Ak a.1 O a8 Ad (λe=>by cases e) O λcb a9=>QF.gy O O O (QF.ldo (vs:=[.int .i64 t.Lo,.int .i64 t.Hi]) Ak a O mh O O Ad O O (QF.gy O O O ?_))))
     obtain⟨rfl,⟨cc,cd⟩⟩:=AH.ex a9
     exact QF.eqs O O Mk O O O O (QF.pick O O O (AJ O))
    ·exact AL O O
   refine QF.mv O O ?_
   obtain⟨ba,c,E⟩:=bd E
   refine QF.cutv 7 60 (.bool ba) ?_ ?_
   ·
    cases V:((ML k.Open.v j.v)||(ML k.Open.v t.v))
    ·
     have c:=A8 V c
     refine QF.gy O O O (QF.fa O I AS.f_Open HE O λce bb=>QF.gy O O O (QF.ld Ak a.1 O bb Ad (λe=>by cases e) O λcf bc=>QF.gy O O O (QF.ldo (vs:=[.int .i64 j.Lo,.int .i64 j.Hi]) Ak a O (mt mh) O O Ad O O (QF.gy O O O (QF.ldo (vs:=[.int .i64 t.Lo,.int .i64 t.Hi]) Ak a O mh O O Ad O O (QF.gy O O O ?_))))))
     obtain⟨cg,ac,c⟩:=bd c
     refine Ao O O O UX O (λh' o=>Iy (St.all h') (AH.mk (x:=j) ⟨br,bt⟩) (AH.mk (x:=t) ⟨bu,bv⟩) ac) λbe=>?_
     obtain⟨ch,ci⟩:=be
     refine QF.gy O O O ?_
     obtain⟨rfl,⟨cj,ck⟩⟩:=AH.ex bc
     refine QF.eqs O O Mk O O O O (QF.pick O O O ?_)
     cases c
     exact AJ O
    ·
     have c:=A7 V c
     cases c
     exact AL O O
   refine QF.as_ O O (Aq (kp [4] O) λcl ad bf=>WF.ret (λaa ww hf hw=>?_))
   have ae:=ad.sel [] 3 O
   cases E
   have af:=e5.trans (M.trans (w.trans (y.trans (u.trans (A.trans (C.trans (D.trans (F.trans (G.trans (H.trans bf))))))))))
   exact DC hf hw O O af ⟨O,ae⟩
theorem Er (hs:St S L h) {H:Value}{i:AK}(az:Rd S h BG H i) {I:Value}{b:Al}(a0:Rd S h CE I b) {r:Bool}(E:Ft N i b=some r):
 Bh Tryz.prog 11 #[H,I] S h (λv S' h'=>v= .bool r∧St S' (L) h'):=by
 refine Ag (l:=[H,I]) 128 Tryz.func11 O Tryz.ntmps11 O λB=>?_
 rw[Ft] at E
 refine WF.seq (WF.rl (LF.boxp O az (λe=>by cases e) O hs λq1 S2 h3 dz e5 k6=>?_))
 have k7:=a0.mono e5
 refine LF.boxp O k7 (λe=>by cases e) O dz λq8 S9 fx s C ae=>LF.q 1 (QF.as_ O O (AE (LF.nil (kp [3,2] O) (WF.seq (WF.seq (WF.rp (.inl O) (QF.fa O ae Al.f_Hour Gu O λfy d0=>QF.ldi Af s.1 O d0 AM O λfz=>QF.lss O O O (QF.mv O O (QF.cutv 4 19 (.bool ((decide (b.Hour<0))||(decide (16777216<b.Hour)))) ?_ ?_)))))))))
 ·
  cases f0:(decide (b.Hour<0))
  ·exact QF.gy O O O (QF.fa O ae Al.f_Hour Gu O λf1 d1=>QF.gy O O O (QF.ldi Af s.1 O d1 AM O λf2=>QF.gy O O O (QF.gtr O O O (QF.pick O O O (AJ O)))))
  ·exact AL O O
 refine QF.mv O O (QF.cutv 8 28 (.bool (((decide (b.Hour<0))||(decide (16777216<b.Hour)))||(decide ((↑b.Vol.length:Int)≠(↑i.Places.length:Int))))) ?_ ?_)
 ·
  cases f3:((decide (b.Hour<0))||(decide (16777216<b.Hour)))
  ·
   refine QF.gy O O O (QF.fa O ae Al.f_Vol FV O λf4 d2=>QF.gy O O O (QF.ldl Af s.1 O d2 FH O λf5 d3=>QF.gy O O O (QF.len O d3 DY O λf6=>QF.gy O O O ?_)))
   have d4:=k6.mono C
   exact QF.fa O d4 Aj CX O λf7 d5=>QF.gy O O O (QF.ldl Af s.1 O d5 Ec O λf8 d6=>QF.gy O O O (QF.len O d6 D8 O λf9=>QF.gy O O O (QF.neq O O O (QF.pick O O O (AJ O)))))
  ·exact AL O O
 refine QF.mv O O (QF.cutv 8 37 (.bool ((((decide (b.Hour<0))||(decide (16777216<b.Hour)))||(decide ((↑b.Vol.length:Int)≠(↑i.Places.length:Int))))||(decide ((↑b.Links.length:Int)≠(↑i.Links.length:Int))))) ?_ ?_)
 ·
  cases ga:(((decide (b.Hour<0))||(decide (16777216<b.Hour)))||(decide ((↑b.Vol.length:Int)≠(↑i.Places.length:Int))))
  ·
   refine QF.gy O O O (QF.fa O ae Al.f_Links FJ O λgb d7=>QF.gy O O O (QF.ldl Af s.1 O d7 Hp O λgc d8=>QF.gy O O O (QF.len O d8 IN O λge=>QF.gy O O O ?_)))
   have d9:=k6.mono C
   exact QF.fa O d9 AK.f_Links Ez O λgf ea=>QF.gy O O O (QF.ldl Af s.1 O ea HT O λgg eb=>QF.gy O O O (QF.len O eb Fx O λgh=>QF.gy O O O (QF.neq O O O (QF.pick O O O (AJ O)))))
  ·exact AL O O
 refine AA (kp [37,3,2] O) (WF.if_ O (λbc=>?_) (λbc=>?_))
 ·
  have E:=A7 bc E
  refine WF.seq (WF.rp (.inl O) (QF.as_ O O (AA (kp [4] O) (WF.ret (λaa ww hf hw=>?_)))))
  cases E
  exact DC hf hw O O (e5.trans C) ⟨O,s⟩
 ·
  have E:=A8 bc E
  refine WF.skip (WF.seq (WF.rl (LF.q 1 (QF.bld (cs:=[.int .i64 0,.int .i64 1125899906842624]) GH O O O (AE (LF.al EH O s λad gi cd J=>Ai (vs:=[.int .i64 0,.int .i64 1125899906842624]) O O O O Ad O cd .head O λbe a2 K=>LF.nil (kp [5,3,2] O) (WF.seq (WF.seq (WF.rp (.inl O) ?_)))))))))
  have ce:=ae.mono (J.trans K)
  refine QF.fa O ce Al.f_Vol FV O λgj ec=>QF.ldl Af a2.1 O ec FH O λed cf=>QF.len O cf DY O λgk=>QF.mv O O (AA (kp [42,41,40,5,3,2] O) (WF.blockJ (λa w=>IV B S9 be (128,[]) a w [(5,.pointer (some ⟨ad,0,none⟩)),(3,q8),(2,q1)] (Bx ad 51 [.int .i64 0,.int .i64 1125899906842624]::L) λ_ _=>DL N i b=some r) ?_ ?_))
  ·
   refine WF.loopF (λn1=>λa w=>∃(af:Int),IV B S9 be (128,[]) a w [(41,.int .i64 (↑b.Vol.length:Int)),(40,ed),(5,.pointer (some ⟨ad,0,none⟩)),(3,q8),(2,q1),(42,.int .i64 af)] (Bx ad 51 [.int .i64 0,.int .i64 1125899906842624]::L) λ_ _=>AB af∧DJ N b (DL N i b) n1 af=some r) N ?_ ?_ ?_
   ·
    intro aa ww hf hw
    exact⟨0,_,_,hf.sub (kp [41,40,5,3,2,42] O),hw,a2,(Bg.refl S9 be),(iq (n:=0) O),E⟩
   ·
    rintro aa ww ⟨_,_,_,_,_,_,_,_,E⟩
    rw[DJ] at E;cases E
   ·
    rintro n1 aa ww ⟨af,gl,gm,hf,hw,ag,a1,gp,E⟩
    refine WF.run ?_ hf hw
    clear hf hw ww aa
    rw[DJ] at E
    refine WF.seq (WF.rp (.inl O) (QF.lss O O O (AA (kp [43,41,40,5,3,2,42] O) (WF.seq (WF.if_ O (λbf=>?_) (λbf=>?_))))))
    ·
     have E:=A7 bf E
     refine WF.skip (WF.seq (WF.block (WF.seq (WF.rl (LF.q 2 ?_)))))
     have ee:=cf.mono' a1
     obtain⟨M,cg,E⟩:=bd E
     refine QF.ixe O O ee DY cg O λgq ef=>QF.ld Af ag.1 O ef Ad (λe=>by cases e) O λgr eg=>AE (LF.al EH O ag λgs gu ch bg=>?_)
     have eh:=eg.mono bg
     obtain⟨rfl,⟨ci,cj⟩⟩:=AH.ex eh
     refine Ai (vs:=[.int .i64 M.Lo,.int .i64 M.Hi]) O O O O Ad O ch .head O λgv X ck=>LF.nil (kp [7,41,40,5,3,2,42] O) (WF.seq (WF.rc (.inl O) X (QF.ldo (vs:=[.int .i64 M.Lo,.int .i64 M.Hi]) Ak X O mh O O Ad O O ?_)))
     obtain⟨ei,cl,E⟩:=bd E
     refine Ab O O O Nk O (λh' o=>Eo (St.all h') (AH.mk (x:=M) ⟨ci,cj⟩) cl) (QF.not O O (QF.mv O O ?_))
     obtain⟨ej,t,E⟩:=bd E
     refine QF.cutv 5 54 (.bool ej) ?_ ?_
     ·
      cases cm:(!ei)
      ·
       have t:=A8 cm t
       refine QF.gy O O O (QF.ldo (vs:=[.int .i64 M.Lo,.int .i64 M.Hi]) Ak X O mh O O Ad O O (QF.gy O O O (QF.ldo (vs:=[.int .i64 0,.int .i64 1125899906842624]) Ak X O (mt mh) O O Ad O O (QF.gy O O O ?_))))
       obtain⟨gw,cn,t⟩:=bd t
       refine Ab O O O QC O (λh' o=>Fv (St.all h') (AH.mk (x:=M) ⟨ci,cj⟩) (AH.mk (x:=(⟨0,1125899906842624⟩:AF)) ⟨(iq (n:=0) O),(iq (n:=1125899906842624) O)⟩) cn) (QF.gy O O O (QF.not O O (QF.pick O O O ?_)))
       cases t
       exact AJ O
      ·
       have t:=A7 cm t
       cases t
       exact AL O O
     refine Aq (kp [54,41,40,5,3,2,42] O) λgx a3 co=>WF.if_ O (λbh=>?_) (λbh=>?_)
     ·
      have E:=A7 bh E
      refine WF.seq (WF.rp (.inl O) (QF.as_ O O (AA (kp [4] O) (WF.ret (λaa ww hf hw=>?_)))))
      have cp:=a3.sel [] 2 O
      cases E
      have cq:=e5.trans (C.trans (J.trans (K.trans (a1.trans (bg.trans (ck.trans co))))))
      exact DC hf hw O O cq ⟨O,cp⟩
     ·
      have E:=A8 bh E
      refine WF.skip (Ap (WF.rp (.inl O) (QF.addw O O O (QF.mv O O (AA (kp [42,41,40,5,3,2] O) (WF.nil (λaa ww hf hw=>?_)))))))
      have cr:=a3.sel [1] 1 O
      have ct:=a1.trans (bg.trans (ck.trans co))
      exact⟨(A3 (af+1)),_,_,hf.sub (kp [41,40,5,3,2,42] O),hw,cr,ct,(BA _),E⟩
    ·
     have E:=A8 bf E
     refine WF.exit O (λaa ww hf hw=>?_)
     exact⟨_,_,hf.sub (kp [5,3,2] O),hw,ag,a1,E⟩
  ·
   rintro aa ww ⟨bi,ah,hf,hw,ai,y,E⟩
   refine WF.run ?_ hf hw
   clear hf hw ww aa
   rw[DL] at E
   refine WF.seq (WF.seq (WF.rp (.inl O) ?_))
   have Y:=ce.mono y
   refine QF.fa O Y Al.f_Queue Gt O λek cu=>QF.ldl Af ai.1 O cu Jf O λcv a4=>QF.len O a4 EU O λel=>QF.mv O O (AA (kp [59,58,57,5,3,2] O) (WF.blockJ (λa w=>IV B bi ah (128,[]) a w [(3,q8),(2,q1)] (L) λ_ _=>DK N i b=some r) ?_ ?_))
   ·
    refine WF.loopF (λn3=>λa w=>∃(D:Int),IV B bi ah (128,[]) a w [(58,.int .i64 (↑b.Queue.length:Int)),(57,cv),(5,.pointer (some ⟨ad,0,none⟩)),(3,q8),(2,q1),(59,.int .i64 D)] (Bx ad 51 [.int .i64 0,.int .i64 1125899906842624]::L) λ_ _=>AB D∧DI N i b (DK N i b) n3 D=some r) N ?_ ?_ ?_
    ·
     intro aa ww hf hw
     exact⟨0,_,_,hf.sub (kp [58,57,5,3,2,59] O),hw,ai,(Bg.refl bi ah),(iq (n:=0) O),E⟩
    ·
     rintro aa ww ⟨_,_,_,_,_,_,_,_,E⟩
     rw[DI] at E;cases E
    ·
     rintro n3 aa ww ⟨D,em,en,hf,hw,V,u,eo,E⟩
     refine WF.run ?_ hf hw
     clear hf hw ww aa
     rw[DI] at E
     refine WF.seq (WF.rp (.inl O) (QF.lss O O O (AA (kp [60,58,57,5,3,2,59] O) (WF.seq (WF.if_ O (λaj=>?_) (λaj=>?_))))))
     ·
      have E:=A7 aj E
      refine WF.skip (WF.seq (WF.block (WF.seq (WF.rl (LF.q 3 (QF.mv O O ?_))))))
      have cw:=a4.mono' u
      obtain⟨c,bj,E⟩:=bd E
      refine QF.ixe O O cw EU bj O λep cx=>QF.ld Af V.1 O cx IM (λe=>by cases e) O λeq cy=>AE (LF.al Qw O V λer es bk z=>LF.q 1 (QF.as_ O O (AE ?_)))
      have cz:=cy.mono z
      obtain⟨rfl,⟨c0,a5,ak,am⟩⟩:=BO.ex cz
      refine Ai (vs:=[.int .i64 c.At,.int .i64 c.To,.int .i64 c.Vol.Lo,.int .i64 c.Vol.Hi]) O O O O IM O bk .head O λet g F=>LF.nil (kp [8,9,58,57,5,3,2,59] O) (WF.seq (WF.seq (WF.rc (.inl O) g (QF.fao O Io O (QF.ldo (vs:=[.int .i64 c.Vol.Lo,.int .i64 c.Vol.Hi]) Ak g O mh O O Ad O O ?_)))))
      obtain⟨c1,bl,E⟩:=bd E
      refine Ab O O O Nk O (λh' o=>Eo (St.all h') (AH.mk (x:=c.Vol) ⟨ak,am⟩) bl) (QF.not O O (QF.mv O O ?_))
      obtain⟨G,j,E⟩:=bd E
      refine QF.cutv 6 74 (.bool G) ?_ ?_
      ·
       cases a6:(!c1)
       ·
        have j:=A8 a6 j
        refine QF.gy O O O (QF.fao O Io O (QF.gy O O O (QF.ldo (vs:=[.int .i64 c.Vol.Lo,.int .i64 c.Vol.Hi]) Ak g O mh O O Ad O O (QF.gy O O O (QF.ldo (vs:=[.int .i64 0,.int .i64 1125899906842624]) Ak g O (mt mh) O O Ad O O (QF.gy O O O ?_))))))
        obtain⟨eu,bm,j⟩:=bd j
        refine Ab O O O QC O (λh' o=>Fv (St.all h') (AH.mk (x:=c.Vol) ⟨ak,am⟩) (AH.mk (x:=(⟨0,1125899906842624⟩:AF)) ⟨(iq (n:=0) O),(iq (n:=1125899906842624) O)⟩) bm) (QF.gy O O O (QF.not O O (QF.pick O O O ?_)))
        cases j
        exact AJ O
       ·
        have j:=A7 a6 j
        cases j
        exact AL O O
      refine QF.mv O O (QF.cutv 5 80 (.bool (G||(decide (c.Vol.Hi≤0)))) ?_ ?_)
      ·
       cases ev:G
       ·exact QF.gy O O O (QF.fao O Io O (QF.gy O O O (QF.fao O CW O (QF.gy O O O (AI Ak g O mh O AM O (QF.gy O O O (QF.leq O O O (QF.pick O O O (AJ O)))))))))
       ·exact AL O O
      refine QF.mv O O (QF.cutv 6 87 (.bool ((G||(decide (c.Vol.Hi≤0)))||(decide (c.At<b.Hour)))) ?_ ?_)
      ·
       cases ew:(G||(decide (c.Vol.Hi≤0)))
       ·
        refine QF.gy O O O (QF.fao O Lr O (QF.gy O O O (AI Ak g O mh O AM O (QF.gy O O O ?_))))
        have bn:=u.trans (z.trans F)
        have c2:=Y.mono bn
        exact QF.fa O c2 Al.f_Hour Gu O λey c3=>QF.gy O O O (QF.ldi Ak g.1 O c3 AM O λez=>QF.gy O O O (QF.lss O O O (QF.pick O O O (AJ O))))
       ·exact AL O O
      refine QF.mv O O ?_
      obtain⟨c4,k,E⟩:=bd E
      refine QF.cutv 8 96 (.bool c4) ?_ ?_
      ·
       cases a7:((G||(decide (c.Vol.Hi≤0)))||(decide (c.At<b.Hour)))
       ·
        have k:=A8 a7 k
        refine QF.gy O O O (QF.fao O Kn O (QF.gy O O O (AI Ak g O mh O AM O (QF.gy O O O ?_))))
        have bo:=C.trans (J.trans (K.trans (y.trans (u.trans (z.trans F)))))
        have c5:=k6.mono bo
        refine QF.fa O c5 Aj CX O λe0 c6=>QF.gy O O O (QF.ldl Ak g.1 O c6 Ec O λe1 c7=>QF.gy O O O (QF.len O c7 D8 O λc8=>QF.gy O O O ?_))
        obtain⟨e2,bp,k⟩:=bd k
        refine Ab O O O QB O (λh' o=>GO (St.all h') a5 (Ii c8) bp) (QF.gy O O O (QF.not O O (QF.pick O O O ?_)))
        cases k
        exact AJ O
       ·
        have k:=A7 a7 k
        cases k
        exact AL O O
      refine Aq (kp [96,8,9,58,57,5,3,2,59] O) λe3 p Z=>WF.if_ O (λan=>?_) (λan=>?_)
      ·
       have E:=A7 an E
       refine WF.seq (WF.rp (.inl O) (QF.as_ O O (AA (kp [4] O) (WF.ret (λaa ww hf hw=>?_)))))
       have bq:=p.sel [] 2 O
       cases E
       have br:=e5.trans (C.trans (J.trans (K.trans (y.trans (u.trans (z.trans (F.trans Z)))))))
       exact DC hf hw O O br ⟨O,bq⟩
      ·
       have E:=A8 an E
       refine WF.skip (WF.seq (WF.rc (.inr ⟨mo,by kernel_rfl⟩) p (QF.mv O O (QF.gtr O O O (QF.mv O O ?_)))))
       obtain⟨c9,d,E⟩:=bd E
       refine QF.cutv 10 109 (.bool c9) ?_ ?_
       ·
        cases a8:(decide (0<D))
        ·
         have d:=A8 a8 d
         cases d
         exact AL O O
        ·
         have d:=A7 a8 d
         refine QF.gy O O O ?_
         have bt:=u.trans (z.trans (F.trans Z))
         have da:=Y.mono bt
         refine QF.fa O da Al.f_Queue Gt O λe4 db=>QF.gy O O O (QF.ldl Ak p.1 O db Jf O λe6 dc=>QF.gy O O O (QF.mv O O (QF.gy O O O (QF.subw O O O (QF.gy O O O ?_)))))
         obtain⟨e7,bu,d⟩:=bd d
         refine QF.ixe O O dc EU bu O λe8 dd=>QF.gy O O O (QF.ld Ak p.1 O dd IM (λe=>by cases e) O λe9 de=>QF.gy O O O (QF.ldo (vs:=[.int .i64 c.At,.int .i64 c.To,.int .i64 c.Vol.Lo,.int .i64 c.Vol.Hi]) Ak p O mh O O IM O O (QF.gy O O O ?_)))
         obtain⟨fb,bv,d⟩:=bd d
         refine Ao O O O WG O (λh' o=>KN (St.all h') (de.mono (o.all p.1)) (BO.mk (x:=c) ⟨c0,a5,ak,am⟩) bv) λdf=>?_
         have fc:=df
         refine QF.gy O O O (QF.geq O O O (QF.pick O O O ?_))
         cases d
         exact AJ O
       refine Aq (kp [109,58,57,5,3,2,59] O) λfd ao a9=>WF.if_ O (λap=>?_) (λap=>?_)
       ·
        have E:=A7 ap E
        refine WF.seq (WF.rp (.inl O) (QF.as_ O O (AA (kp [4] O) (WF.ret (λaa ww hf hw=>?_)))))
        have bw:=ao.sel [] 2 O
        cases E
        have bx:=e5.trans (C.trans (J.trans (K.trans (y.trans (u.trans (z.trans (F.trans (Z.trans a9))))))))
        exact DC hf hw O O bx ⟨O,bw⟩
       ·
        have E:=A8 ap E
        refine WF.skip (Ap (WF.rp (.inl O) (QF.addw O O O (QF.mv O O (AA (kp [59,58,57,5,3,2] O) (WF.nil (λaa ww hf hw=>?_)))))))
        have bz:=ao.sel [1] 1 O
        have b0:=u.trans (z.trans (F.trans (Z.trans a9)))
        exact⟨(A3 (D+1)),_,_,hf.sub (kp [58,57,5,3,2,59] O),hw,bz,b0,(BA _),E⟩
     ·
      have E:=A8 aj E
      refine WF.exit O (λaa ww hf hw=>?_)
      have b1:=V.drop .head
      exact⟨_,_,hf.sub (kp [3,2] O),hw,b1,u,E⟩
   ·
    rintro aa ww ⟨aq,ar,hf,hw,au,ab,E⟩
    refine WF.run ?_ hf hw
    clear hf hw ww aa
    rw[DK] at E
    refine WF.seq (WF.seq (WF.rp (.inl O) ?_))
    have dg:=Y.mono ab
    refine QF.fa O dg Al.f_Links FJ O λfe dh=>QF.ldl Af au.1 O dh Hp O λdi ba=>QF.len O ba IN O λff=>QF.mv O O (AA (kp [114,113,112,2] O) (WF.blockJ (λa w=>IV B aq ar (128,[]) a w [] (L) λ_ _=>Dj N=some r) ?_ ?_))
    ·
     refine WF.loopF (λn5=>λa w=>∃(Q:Int),IV B aq ar (128,[]) a w [(113,.int .i64 (↑b.Links.length:Int)),(112,di),(2,q1),(114,.int .i64 Q)] (L) λ_ _=>AB Q∧DH N i b (Dj N) n5 Q=some r) N ?_ ?_ ?_
     ·
      intro aa ww hf hw
      exact⟨0,_,_,hf.sub (kp [113,112,2,114] O),hw,au,(Bg.refl aq ar),(iq (n:=0) O),E⟩
     ·
      rintro aa ww ⟨_,_,_,_,_,_,_,_,E⟩
      rw[DH] at E;cases E
     ·
      rintro n5 aa ww ⟨Q,fg,fh,hf,hw,W,U,fi,E⟩
      refine WF.run ?_ hf hw
      clear hf hw ww aa
      rw[DH] at E
      refine WF.seq (WF.rp (.inl O) (QF.lss O O O (AA (kp [115,113,112,2,114] O) (WF.seq (WF.if_ O (λav=>?_) (λav=>?_))))))
      ·
       have E:=A7 av E
       refine WF.skip (WF.seq (WF.block (WF.seq (WF.rl (LF.q 3 (QF.mv O O ?_))))))
       have dj:=ba.mono' U
       obtain⟨m,b2,E⟩:=bd E
       refine QF.ixe O O dj IN b2 O λfj dk=>QF.ld Af W.1 O dk GF (λe=>by cases e) O λfk dl=>AE (LF.al PL O W λfl fm b3 ac=>LF.q 1 (QF.as_ O O (AE ?_)))
       have dm:=dl.mono ac
       obtain⟨rfl,⟨dn,dp,dq,dr,ds⟩⟩:=Aa.ex dm
       refine Ai (vs:=[.int .i64 m.Pos.Lo,.int .i64 m.Pos.Hi,.int .i64 m.Target,.int .i64 m.Open.Lo,.int .i64 m.Open.Hi]) O O O O GF O b3 .head O λfn A aw=>LF.nil (kp [10,11,113,112,2,114] O) (WF.seq (WF.rc (.inr ⟨mo,by kernel_rfl⟩) A ?_))
       have b4:=C.trans (J.trans (K.trans (y.trans (ab.trans (U.trans (ac.trans aw))))))
       have dt:=k6.mono b4
       refine QF.fa O dt AK.f_Links Ez O λfo du=>QF.ldl Ak A.1 O du HT O λfp dv=>QF.mv O O ?_
       obtain⟨fq,b5,E⟩:=bd E
       refine QF.ixe O O dv Fx b5 O λfr dw=>QF.ld Ak A.1 O dw Dk (λe=>by cases e) O λfs dx=>QF.ldo (vs:=[.int .i64 m.Pos.Lo,.int .i64 m.Pos.Hi,.int .i64 m.Target,.int .i64 m.Open.Lo,.int .i64 m.Open.Hi]) Ak A O mh O O GF O O ?_
       obtain⟨ft,b6,E⟩:=bd E
       refine Ab O O O Y0 O (λh' o=>LN (St.all h') (dx.mono (o.all A.1)) (Aa.mk (x:=m) ⟨dn,dp,dq,dr,ds⟩) b6) (QF.not O O (Aq (kp [126,113,112,2,114] O) λfu ax bb=>WF.if_ O (λay=>?_) (λay=>?_)))
       ·
        have E:=A7 ay E
        refine WF.seq (WF.rp (.inl O) (QF.as_ O O (AA (kp [4] O) (WF.ret (λaa ww hf hw=>?_)))))
        have b7:=ax.drop .head
        cases E
        have b8:=e5.trans (C.trans (J.trans (K.trans (y.trans (ab.trans (U.trans (ac.trans (aw.trans bb))))))))
        exact DC hf hw O O b8 ⟨O,b7⟩
       ·
        have E:=A8 ay E
        refine WF.skip (Ap (WF.rp (.inl O) (QF.addw O O O (QF.mv O O (AA (kp [114,113,112,2] O) (WF.nil (λaa ww hf hw=>?_)))))))
        have b9:=ax.drop .head
        have ca:=U.trans (ac.trans (aw.trans bb))
        exact⟨(A3 (Q+1)),_,_,hf.sub (kp [113,112,2,114] O),hw,b9,ca,(BA _),E⟩
      ·
       have E:=A8 av E
       refine WF.exit O (λaa ww hf hw=>?_)
       exact⟨_,_,hf.sub J6,hw,W,U,E⟩
    ·
     rintro aa ww ⟨fv,fw,hf,hw,cb,dy,E⟩
     refine WF.run ?_ hf hw
     clear hf hw ww aa
     rw[Dj] at E
     refine WF.seq (WF.rp (.inl O) (QF.as_ O O (AA (kp [4] O) (WF.ret (λaa ww hf hw=>?_)))))
     cases E
     have cc:=e5.trans (C.trans (J.trans (K.trans (y.trans (ab.trans dy)))))
     exact DC hf hw O O cc ⟨O,cb⟩
theorem KE (hs:St S L h) {a:Value}{c:AF}(b:Rd S h AH a c) {r:Int}(E:IC N c=some r):
 Bh Tryz.prog 61 #[a] S h (λv S' h'=>v= .int .i64 r∧AB r∧St S' (L) h'):=by
 refine Ag (l:=[a]) 8 Tryz.func61 O Tryz.ntmps61 O λB=>?_
 rw[IC] at E
 refine WF.seq (WF.rl (LF.boxp O b (λe=>by cases e) O hs λA C D d t s=>LF.q 1 (QF.as_ O O (AE (LF.nil (kp [1] O) (WF.seq (WF.rc (.inl O) d (QF.fa O s AF.f_Hi CW O λF u=>QF.ldi Ak d.1 O u AM O λw=>QF.fa O s AF.f_Lo DD O λx j=>QF.ldi Ak d.1 O j AM O λk=>?_))))))))
 obtain⟨y,g,E⟩:=bd E
 refine Ao O O O Hg O (λh' o=>Cz (St.all h') w k g) λm=>?_
 have n:=m
 refine QF.as_ O O (Aq (kp [2] O) λz i p=>WF.ret (λaa ww hf hw=>?_))
 cases E
 exact DC hf hw O O (t.trans p) ⟨O,n,i⟩
theorem GC (hs:St S L h) {c:Value}{b:Al}(u:Rd S h CE c b) {r:Int}(E:Iq N b=some r):
 Bh Tryz.prog 20 #[c] S h (λv S' h'=>v= .int .i64 r∧AB r∧St S' (L) h'):=by
 refine Ag (l:=[c]) 34 Tryz.func20 O Tryz.ntmps20 O λB=>?_
 rw[Iq] at E
 refine WF.seq (WF.rl (LF.boxp O u (λe=>by cases e) O hs λq1 S2 h3 X e5 k6=>LF.q 1 (QF.as_ O O (AE (LF.nil (kp [1] O) (WF.seq (WF.rp (.inl O) (QF.as_ O O (AA (kp [3,1] O) (WF.seq (WF.seq (WF.rp (.inl O) ?_))))))))))))
 refine QF.fa O k6 Al.f_Vol FV O λq7 k8=>QF.ldl Af X.1 O k8 FH O λv9 Y=>QF.len O Y DY O λbu=>QF.mv O O (AA (kp [11,10,9,3,1] O) (WF.blockJ (λa w=>∃(g:Int),IV B S2 h3 (34,[]) a w [(1,q1),(3,.int .i64 g)] (L) λ_ _=>AB g∧HJ N b g=some r) ?_ ?_))
 ·
  refine WF.loopF (λn1=>λa w=>∃(i:Int) (j:Int),IV B S2 h3 (34,[]) a w [(10,.int .i64 (↑b.Vol.length:Int)),(9,v9),(1,q1),(3,.int .i64 i),(11,.int .i64 j)] (L) λ_ _=>AB i∧AB j∧GS N b (HJ N b) n1 i j=some r) N ?_ ?_ ?_
  ·
   intro aa ww hf hw
   exact⟨0,0,_,_,hf.sub (kp [10,9,1,3,11] O),hw,X,(Bg.refl S2 h3),(iq (n:=0) O),(iq (n:=0) O),E⟩
  ·
   rintro aa ww ⟨_,_,_,_,_,_,_,_,_,_,E⟩
   rw[GS] at E;cases E
  ·
   rintro n1 aa ww ⟨i,j,bv,bw,hf,hw,k,D,Z,bx,E⟩
   refine WF.run ?_ hf hw
   clear hf hw ww aa
   rw[GS] at E
   refine WF.seq (WF.rp (.inl O) (QF.lss O O O (AA (kp [12,10,9,1,3,11] O) (WF.seq (WF.if_ O (λF=>?_) (λF=>?_))))))
   ·
    have E:=A7 F E
    refine WF.skip (WF.seq (WF.block (WF.seq (WF.rl (LF.q 2 ?_)))))
    have a0:=Y.mono' D
    obtain⟨m,ab,E⟩:=bd E
    refine QF.ixe O O a0 DY ab O λbz a1=>QF.ld Af k.1 O a1 Ad (λe=>by cases e) O λb0 a2=>AE (LF.al EH O k λb1 b2 ac ad=>?_)
    have a3:=a2.mono ad
    obtain⟨rfl,⟨a4,a5⟩⟩:=AH.ex a3
    refine Ai (vs:=[.int .i64 m.Lo,.int .i64 m.Hi]) O O O O Ad O ac .head O λb3 z a6=>LF.nil (kp [5,10,9,1,3,11] O) (WF.rc (.inl O) z (QF.mv O O (QF.ldo (vs:=[.int .i64 m.Lo,.int .i64 m.Hi]) Ak z O mh O O Ad O O ?_)))
    obtain⟨b4,ae,E⟩:=bd E
    refine Ao O O O WE O (λh' o=>KE (St.all h') (AH.mk (x:=m) ⟨a4,a5⟩) ae) λa7=>?_
    have a8:=a7
    obtain⟨a9,af,E⟩:=bd E
    refine Ao O O O Jk O (λh' o=>DP (St.all h') Z a8 af) λba=>?_
    have bb:=ba
    refine QF.as_ O O (Aq (kp [3,10,9,1,11] O) λb5 ag bc=>Ap (WF.rp (.inl O) (QF.addw O O O (QF.mv O O (AA (kp [11,3,10,9,1] O) (WF.nil (λaa ww hf hw=>?_)))))))
    have ah:=ag.drop .head
    have ai:=D.trans (ad.trans (a6.trans bc))
    exact⟨a9,(A3 (j+1)),_,_,hf.sub (kp [10,9,1,3,11] O),hw,ah,ai,bb,(BA _),E⟩
   ·
    have E:=A8 F E
    refine WF.exit O (λaa ww hf hw=>?_)
    exact⟨i,_,_,hf.sub (kp [1,3] O),hw,k,D,Z,E⟩
 ·
  rintro aa ww ⟨g,G,H,hf,hw,A,aj,be,E⟩
  refine WF.run ?_ hf hw
  clear hf hw ww aa
  rw[HJ] at E
  refine WF.seq (WF.seq (WF.rp (.inl O) ?_))
  have bf:=k6.mono aj
  refine QF.fa O bf Al.f_Queue Gt O λb6 bg=>QF.ldl Af A.1 O bg Jf O λbh ak=>QF.len O ak EU O λb7=>QF.mv O O (AA (kp [23,22,21,3] O) (WF.blockJ (λa w=>∃(y:Int),IV B G H (34,[]) a w [(3,.int .i64 y)] (L) λ_ _=>AB y∧HI N y=some r) ?_ ?_))
  ·
   refine WF.loopF (λn3=>λa w=>∃(p:Int) (s:Int),IV B G H (34,[]) a w [(22,.int .i64 (↑b.Queue.length:Int)),(21,bh),(3,.int .i64 p),(23,.int .i64 s)] (L) λ_ _=>AB p∧AB s∧GR N b (HI N) n3 p s=some r) N ?_ ?_ ?_
   ·
    intro aa ww hf hw
    exact⟨g,0,_,_,hf.sub (kp [22,21,3,23] O),hw,A,(Bg.refl G H),be,(iq (n:=0) O),E⟩
   ·
    rintro aa ww ⟨_,_,_,_,_,_,_,_,_,_,E⟩
    rw[GR] at E;cases E
   ·
    rintro n3 aa ww ⟨p,s,b8,b9,hf,hw,t,I,am,ca,E⟩
    refine WF.run ?_ hf hw
    clear hf hw ww aa
    rw[GR] at E
    refine WF.seq (WF.rp (.inl O) (QF.lss O O O (AA (kp [24,22,21,3,23] O) (WF.seq (WF.if_ O (λJ=>?_) (λJ=>?_))))))
    ·
     have E:=A7 J E
     refine WF.skip (WF.seq (WF.block (WF.seq (WF.rl (LF.q 2 ?_)))))
     have bi:=ak.mono' I
     obtain⟨d,an,E⟩:=bd E
     refine QF.ixe O O bi EU an O λcb bj=>QF.ld Af t.1 O bj IM (λe=>by cases e) O λcc bk=>AE (LF.al Qw O t λcd ce ao ap=>?_)
     have bl:=bk.mono ap
     obtain⟨rfl,⟨cf,cg,bm,bn⟩⟩:=BO.ex bl
     refine Ai (vs:=[.int .i64 d.At,.int .i64 d.To,.int .i64 d.Vol.Lo,.int .i64 d.Vol.Hi]) O O O O IM O ao .head O λch C bo=>LF.nil (kp [7,22,21,3,23] O) (WF.rc (.inl O) C (QF.mv O O (QF.fao O Io O (QF.ldo (vs:=[.int .i64 d.Vol.Lo,.int .i64 d.Vol.Hi]) Ak C O mh O O Ad O O ?_))))
     obtain⟨ci,aq,E⟩:=bd E
     refine Ao O O O WE O (λh' o=>KE (St.all h') (AH.mk (x:=d.Vol) ⟨bm,bn⟩) aq) λar=>?_
     have au:=ar
     obtain⟨av,K,E⟩:=bd E
     refine Ao O O O Jk O (λh' o=>DP (St.all h') am au K) λaw=>?_
     have ax:=aw
     refine QF.as_ O O (Aq (kp [3,22,21,23] O) λbq M ay=>Ap (WF.rp (.inl O) (QF.addw O O O (QF.mv O O (AA (kp [23,3,22,21] O) (WF.nil (λaa ww hf hw=>?_)))))))
     have Q:=M.drop .head
     have U:=I.trans (ap.trans (bo.trans ay))
     exact⟨av,(A3 (s+1)),_,_,hf.sub (kp [22,21,3,23] O),hw,Q,U,ax,(BA _),E⟩
    ·
     have E:=A8 J E
     refine WF.exit O (λaa ww hf hw=>?_)
     exact⟨p,_,_,hf.sub (kp [3] O),hw,t,I,am,E⟩
  ·
   rintro aa ww ⟨y,br,bt,hf,hw,V,az,bp,E⟩
   refine WF.run ?_ hf hw
   clear hf hw ww aa
   rw[HI] at E
   refine WF.seq (WF.rp (.inl O) (QF.mv O O (QF.as_ O O (AA (kp [2] O) (WF.ret (λaa ww hf hw=>?_))))))
   cases E
   have W:=e5.trans (aj.trans az)
   exact DC hf hw O O W ⟨O,bp,V⟩
theorem HD (hs:St S L h) {b:Value}{c:(List Int)}(d:Sl S h AW.int b c) {r:Int}(E:Gd N c=some r):
 Bh Tryz.prog 30 #[b] S h (λv S' h'=>v= .int .i64 r∧AB r∧St S' (L) h'):=by
 refine Ag (l:=[b]) 17 Tryz.func30 O Tryz.ntmps30 O λB=>?_
 rw[Gd] at E
 refine WF.seq (WF.rp (.inl O) (QF.as_ O O (AA (kp [0] O) (WF.seq (WF.rp (.inl O) (QF.as_ O O (AA (kp [3,0] O) (WF.seq (WF.seq (WF.rp (.inl O) (QF.mv O O (QF.len O d GI O λZ=>QF.mv O O ?_))))))))))))
 refine AA (kp [8,7,6,3] O) (WF.blockJ (λa w=>∃(u:Int),IV B S h (17,[]) a w [(3,.int .i64 u)] (L) λ_ _=>AB u∧Gx N u=some r) ?_ ?_)
 ·
  refine WF.loopF (λH=>λa w=>∃(m:Int) (g:Int),IV B S h (17,[]) a w [(7,.int .i64 (↑c.length:Int)),(6,b),(3,.int .i64 m),(8,.int .i64 g)] (L) λ_ _=>AB m∧AB g∧F3 N c (Gx N) H m g=some r) N ?_ ?_ ?_
  ·
   intro aa ww hf hw
   exact⟨0,0,_,_,hf.sub (kp [7,6,3,8] O),hw,hs,(Bg.refl S h),(iq (n:=0) O),(iq (n:=0) O),E⟩
  ·
   rintro aa ww ⟨_,_,_,_,_,_,_,_,_,_,E⟩
   rw[F3] at E;cases E
  ·
   rintro H aa ww ⟨m,g,J,K,hf,hw,i,j,I,M,E⟩
   refine WF.run ?_ hf hw
   clear hf hw ww aa
   rw[F3] at E
   refine WF.seq (WF.rp (.inl O) (QF.lss O O O (AA (kp [9,7,6,3,8] O) (WF.seq (WF.if_ O (λk=>?_) (λk=>?_))))))
   ·
    have E:=A7 k E
    refine WF.skip (WF.seq (WF.block (WF.seq (WF.rp (.inl O) ?_))))
    have x:=d.mono' j
    obtain⟨Q,p,E⟩:=bd E
    refine QF.ixe O O x GI p O λU y=>QF.ldi Af i.1 O y AM O λz=>QF.as_ O O (AA (kp [5,7,6,3,8] O) (WF.rc (.inl O) i (QF.mv O O (QF.mv O O ?_))))
    obtain⟨A,q,E⟩:=bd E
    refine Ao O O O Jk O (λh' o=>DP (St.all h') I z q) λC=>?_
    have D:=C
    refine QF.as_ O O (Aq (kp [3,7,6,8] O) λV s F=>Ap (WF.rp (.inl O) (QF.addw O O O (QF.mv O O (AA (kp [8,3,7,6] O) (WF.nil (λaa ww hf hw=>?_)))))))
    exact⟨A,(A3 (g+1)),_,_,hf.sub (kp [7,6,3,8] O),hw,s,(j.trans F),D,(BA _),E⟩
   ·
    have E:=A8 k E
    refine WF.exit O (λaa ww hf hw=>?_)
    exact⟨m,_,_,hf.sub (kp [3] O),hw,i,j,I,E⟩
 ·
  rintro aa ww ⟨u,W,X,hf,hw,t,G,Y,E⟩
  refine WF.run ?_ hf hw
  clear hf hw ww aa
  rw[Gx] at E
  refine WF.seq (WF.rp (.inl O) (QF.mv O O (QF.as_ O O (AA (kp [2] O) (WF.ret (λaa ww hf hw=>?_))))))
  cases E
  exact DC hf hw O O G ⟨O,Y,t⟩
theorem Ll (hs:St S L h) {a:Bool}{r:Int}(E:JT N a=some r):
 Bh Tryz.prog 68 #[.bool a] S h (λv S' h'=>v= .int .i64 r∧AB r∧St S' (L) h'):=by
 refine Ag (l:=[.bool a]) 4 Tryz.func68 O Tryz.ntmps68 O λB=>?_
 rw[JT] at E
 refine WF.seq (WF.rp (.inl O) (QF.as_ O O (AA (kp [0] O) (WF.seq (WF.seq (WF.rp (.inl O) (QF.mv O O (AA (kp [3] O) (WF.if_ O (λb=>?_) (λb=>?_))))))))))
 ·
  have E:=A7 b E
  refine WF.seq (WF.rp (.inl O) (QF.as_ O O (AA (kp [2] O) (WF.ret (λaa ww hf hw=>?_)))))
  cases E
  exact DC hf hw O O (Bg.refl S h) ⟨O,(iq (n:=1) O),hs⟩
 ·
  have E:=A8 b E
  refine WF.skip (WF.seq (WF.rp (.inl O) (QF.as_ O O (AA (kp [2] O) (WF.ret (λaa ww hf hw=>?_))))))
  cases E
  exact DC hf hw O O (Bg.refl S h) ⟨O,(iq (n:=0) O),hs⟩
theorem Lk (hs:St S L h) {p:Value}{j:Al}(ah:Rd S h CE p j) {s:Value}{H:CQ}(ai:Rd S h EM s H) {r:Bool}(E:Hy N j H=some r):
 Bh Tryz.prog 74 #[p,s] S h (λv S' h'=>v= .bool r∧St S' (L) h'):=by
 refine Ag (l:=[p,s]) 76 Tryz.func74 O Tryz.ntmps74 O λB=>?_
 rw[Hy] at E
 refine WF.seq (WF.rl (LF.boxp O ah (λe=>by cases e) O hs λq1 S2 h3 co e5 k6=>?_))
 have k7:=ai.mono e5
 refine LF.boxp O k7 (λe=>by cases e) O co λq8 S9 dy bu aj cp=>LF.q 1 (QF.as_ O O (AE (LF.nil (kp [3,2] O) (WF.seq (WF.rl (Qs (K:=0) (E:=0) O bu (λk:AU=>Value.agg (AU.v k).toArray) OT λt a2 an M=>LF.q 1 (QF.as_ O O (AE (LF.nil (kp [5,3,2] O) (WF.seq (WF.seq ?_)))))))))))
 refine WF.rp (.inl O) ?_
 have cq:=cp.mono M
 refine QF.fa O cq CQ.f_Queue Rb O λdz cr=>QF.ldl Af an.1 O cr Vx O λct bv=>QF.len O bv Q9 O λd0=>QF.mv O O (AA (kp [19,18,17,5,2] O) (WF.blockJ (λa w=>∃(i:(List (AU×Int))),IV B S9 a2 (76,[]) a w [(5,.map (some t)),(2,q1)] (MP (λk:AU=>Value.agg (AU.v k).toArray) OT t i::L) λ_ _=>Fs N j i=some r) ?_ ?_))
 ·
  refine WF.loopF (λn1=>λa w=>∃(Q:Int) (U:(List (AU×Int))),IV B S9 a2 (76,[]) a w [(18,.int .i64 (↑H.Queue.length:Int)),(17,ct),(5,.map (some t)),(2,q1),(19,.int .i64 Q)] (MP (λk:AU=>Value.agg (AU.v k).toArray) OT t U::L) λ_ _=>AB Q∧Eu N H (Fs N j) n1 Q U=some r) N ?_ ?_ ?_
  ·
   intro aa ww hf hw
   exact⟨0,([]:(List (AU×Int))),_,_,hf.sub (kp [18,17,5,2,19] O),hw,an,(Bg.refl S9 a2),(iq (n:=0) O),E⟩
  ·
   rintro aa ww ⟨_,_,_,_,_,_,_,_,_,E⟩
   rw[Eu] at E;cases E
  ·
   rintro n1 aa ww ⟨Q,U,d1,d2,hf,hw,V,a3,d3,E⟩
   refine WF.run ?_ hf hw
   clear hf hw ww aa
   rw[Eu] at E
   refine WF.seq (WF.rp (.inl O) (QF.lss O O O (AA (kp [20,18,17,5,2,19] O) (WF.seq (WF.if_ O (λa4=>?_) (λa4=>?_))))))
   ·
    have E:=A7 a4 E
    refine WF.skip (WF.seq (WF.block (WF.seq (WF.rl (LF.q 2 ?_)))))
    have cu:=bv.mono' a3
    obtain⟨c,bw,E⟩:=bd E
    refine QF.ixe O O cu Q9 bw O λd4 cv=>QF.ld Af V.1 O cv Q2 (λe=>by cases e) O λd5 cw=>AE (LF.al Vv O V λd6 d7 bx bz=>?_)
    have cx:=cw.mono bz
    obtain⟨b0,rfl,d8,d9,b1⟩:=H1.ex cx
    refine LF.st (vs:=[.int .i64 c.At,.int .i64 c.To,b0]) (cs':=[.int .i64 c.At,.int .i64 c.To,b0]) O O O (AD O (AD O (AD b1.one EI))) Q2 O bx .head O O λea W b2=>LF.nil (kp [7,18,17,5,2,19] O) (WF.seq (WF.rl (LF.q 5 (QF.fao O Ra O (AI Af W O mh O AM O (QF.fao O RZ O (AI Af W O mh O AM O (QF.bld (cs:=[.int .i64 c.At,.int .i64 c.To]) TH O O O (AE (LF.al QQ O W λeb ec b3 b4=>Ai (vs:=[.int .i64 c.At,.int .i64 c.To]) O O O O KC O b3 .head O λed m b5=>LF.nil (kp [8,7,18,17,5,2,19] O) ?_))))))))))
    refine EG 9 mo (by kernel_rfl) O m (QF.mv O O (QF.ldo (vs:=[.int .i64 c.At,.int .i64 c.To]) Ak m O mh O O KC O O (QF.mv O O (QF.ldo (vs:=[.int .i64 c.At,.int .i64 c.To]) Ak m O mh O O KC O O (O8 (k0:=(⟨c.At,c.To⟩:AU)) (z:=0) Ak m (mt (mt mh)) O O OU Li (λw=>(Xm w).trans (by rw[Si])) O O (QF.fao O RY O (AI Ak m O (mt mh) O KB O ?_)))))))
    have b6:=b2.trans (b4.trans b5)
    have cy:=b1.mono' b6
    obtain⟨ee,b7,E⟩:=bd E
    refine Ao O O O Ro O (λh' o=>HD (St.all h') (cy.mono' (o.all m.1)) b7) λcz=>?_
    have c0:=cz
    obtain⟨b8,b9,E⟩:=bd E
    refine Ao O O O Jk O (λh' o=>DP (St.all h') (BA _) c0 b9) λc1=>?_
    have c2:=c1
    refine DX λef ca c3=>Qr (k0:=(⟨c.At,c.To⟩:AU)) (x:=b8) ca (.tail (.tail .head)) O O (congrArg some (Q0 c2)).symm OU Li λeg cb c4=>LF.nil (kp [18,17,5,2,19] O) (Ap (WF.rp (.inl O) (QF.addw O O O (QF.mv O O (AA (kp [19,18,17,5,2] O) (WF.nil (λaa ww hf hw=>?_)))))))
    have cc:=cb.sel [2] 2 O
    have cd:=a3.trans (bz.trans (b2.trans (b4.trans (b5.trans (c3.trans c4)))))
    exact⟨(A3 (Q+1)),(MJ (λk:AU=>Value.agg (AU.v k).toArray) U (⟨c.At,c.To⟩:AU) b8),_,_,hf.sub (kp [18,17,5,2,19] O),hw,cc,cd,(BA _),E⟩
   ·
    have E:=A8 a4 E
    refine WF.exit O (λaa ww hf hw=>?_)
    exact⟨U,_,_,hf.sub (kp [5,2] O),hw,V,a3,E⟩
 ·
  rintro aa ww ⟨i,a5,eh,hf,hw,ce,ak,E⟩
  refine WF.run ?_ hf hw
  clear hf hw ww aa
  rw[Fs] at E
  refine WF.seq (WF.rl (Qs (K:=0) (E:=0) O ce (λk:AU=>Value.agg (AU.v k).toArray) Value.bool λJ a6 ao am=>LF.q 1 (QF.as_ O O (AE (LF.nil (kp [9,5,2] O) (WF.seq (WF.seq (WF.rp (.inl O) ?_))))))))
  have cf:=aj.trans (M.trans (ak.trans am))
  have c5:=k6.mono cf
  refine QF.fa O c5 Al.f_Queue Gt O λei c6=>QF.ldl Af ao.1 O c6 Jf O λc7 cg=>QF.len O cg EU O λej=>QF.mv O O (AA (kp [42,41,40,9,5] O) (WF.blockJ (λa w=>∃(A:(List (AU×Bool))),IV B a5 a6 (76,[]) a w [(9,.map (some J)),(5,.map (some t))] (MP (λk:AU=>Value.agg (AU.v k).toArray) Value.bool J A::MP (λk:AU=>Value.agg (AU.v k).toArray) OT t i::L) λ_ _=>Fq N i A=some r) ?_ ?_))
  ·
   refine WF.loopF (λn3=>λa w=>∃(X:Int) (Y:(List (AU×Bool))),IV B a5 a6 (76,[]) a w [(41,.int .i64 (↑j.Queue.length:Int)),(40,c7),(9,.map (some J)),(5,.map (some t)),(42,.int .i64 X)] (MP (λk:AU=>Value.agg (AU.v k).toArray) Value.bool J Y::MP (λk:AU=>Value.agg (AU.v k).toArray) OT t i::L) λ_ _=>AB X∧Et N j i (Fq N i) n3 X Y=some r) N ?_ ?_ ?_
   ·
    intro aa ww hf hw
    exact⟨0,([]:(List (AU×Bool))),_,_,hf.sub (kp [41,40,9,5,42] O),hw,ao,(Bg.refl a5 a6),(iq (n:=0) O),E⟩
   ·
    rintro aa ww ⟨_,_,_,_,_,_,_,_,_,E⟩
    rw[Et] at E;cases E
   ·
    rintro n3 aa ww ⟨X,Y,c8,c9,hf,hw,C,I,ek,E⟩
    refine WF.run ?_ hf hw
    clear hf hw ww aa
    rw[Et] at E
    refine WF.seq (WF.rp (.inl O) (QF.lss O O O (AA (kp [43,41,40,9,5,42] O) (WF.seq (WF.if_ O (λZ=>?_) (λZ=>?_))))))
    ·
     have E:=A7 Z E
     refine WF.skip (WF.seq (WF.block (WF.seq (WF.rl (LF.q 2 ?_)))))
     have ch:=cg.mono' I
     obtain⟨b,a7,E⟩:=bd E
     refine QF.ixe O O ch EU a7 O λda ci=>QF.ld Af C.1 O ci IM (λe=>by cases e) O λdb cj=>AE (LF.al Qw O C λdc dd a8 ab=>?_)
     have ck:=cj.mono ab
     obtain⟨rfl,⟨de,df,cl,cm⟩⟩:=BO.ex ck
     refine Ai (vs:=[.int .i64 b.At,.int .i64 b.To,.int .i64 b.Vol.Lo,.int .i64 b.Vol.Hi]) O O O O IM O a8 .head O λdg D ap=>LF.nil (kp [11,41,40,9,5,42] O) (WF.seq (WF.rl (LF.q 5 (QF.fao O Lr O (AI Af D O mh O AM O (QF.fao O Kn O (AI Af D O mh O AM O (QF.bld (cs:=[.int .i64 b.At,.int .i64 b.To]) TH O O O (AE (LF.al QQ O D λdh di a9 aq=>Ai (vs:=[.int .i64 b.At,.int .i64 b.To]) O O O O KC O a9 .head O λdj u ar=>LF.nil (kp [12,11,41,40,9,5,42] O) ?_))))))))))
     refine WF.seq (WF.seq (WF.rc (.inr ⟨mo,by kernel_rfl⟩) u (QF.fao O Io O (QF.ldo (vs:=[.int .i64 b.Vol.Lo,.int .i64 b.Vol.Hi]) Ak u O (mt mh) O O Ad O O (QF.mv O O (QF.ldo (vs:=[.int .i64 b.At,.int .i64 b.To]) Ak u O mh O O KC O O (O8 (k0:=(⟨b.At,b.To⟩:AU)) (z:=0) Ak u (mt (mt (mt mh))) O O OU Li (λw=>(Xm w).trans (by rw[Si])) O O ?_)))))))
     obtain⟨dk,ba,E⟩:=bd E
     refine Ab O O O Ni O (λh' o=>Fk (St.all h') (AH.mk (x:=b.Vol) ⟨cl,cm⟩) (BA _) ba) (QF.not O O (Aq (kp [57,12,41,40,9,5,42] O) λdl F au=>WF.if_ O (λac=>?_) (λac=>?_)))
     ·
      have E:=A7 ac E
      refine WF.seq (WF.rp (.inl O) (QF.as_ O O (AA (kp [4] O) (WF.ret (λaa ww hf hw=>?_)))))
      have bb:=F.sel [] 4 O
      cases E
      have bc:=e5.trans (aj.trans (M.trans (ak.trans (am.trans (I.trans (ab.trans (ap.trans (aq.trans (ar.trans au)))))))))
      exact DC hf hw O O bc ⟨O,bb⟩
     ·
      have E:=A8 ac E
      refine WF.skip (WF.rl (LF.q 2 (QF.mv O O (QF.ldo (vs:=[.int .i64 b.At,.int .i64 b.To]) Af F O mh O O KC O O (AE (Qr (k0:=(⟨b.At,b.To⟩:AU)) (x:=true) F (.tail (.tail .head)) O O O So Li λdm be cn=>LF.nil (kp [41,40,9,5,42] O) (Ap (WF.rp (.inl O) (QF.addw O O O (QF.mv O O (AA (kp [42,41,40,9,5] O) (WF.nil (λaa ww hf hw=>?_)))))))))))))
      have bf:=be.sel [2,2] 2 O
      have bg:=I.trans (ab.trans (ap.trans (aq.trans (ar.trans (au.trans cn)))))
      exact⟨(A3 (X+1)),(MJ (λk:AU=>Value.agg (AU.v k).toArray) Y (⟨b.At,b.To⟩:AU) true),_,_,hf.sub (kp [41,40,9,5,42] O),hw,bf,bg,(BA _),E⟩
    ·
     have E:=A8 Z E
     refine WF.exit O (λaa ww hf hw=>?_)
     exact⟨Y,_,_,hf.sub (kp [9,5] O),hw,C,I,E⟩
  ·
   rintro aa ww ⟨A,av,dn,hf,hw,bh,aw,E⟩
   refine WF.run ?_ hf hw
   clear hf hw ww aa
   rw[Fq] at E
   refine WF.seq (WF.seq (WF.rl (LF.q 1 (QF.mv O O (AE ?_)))))
   have bi:=bh.pick (.tail .head)
   refine SY bi O OU O λad ax bj ay=>LF.nil (kp [62,9] O) (WF.block (WF.loopF (λn1=>λa w=>∃(g:List (AU×Int)) (S':Nat→Prop) (h':Ac),Fr (76,[]) a [(62,(.pointer (some ⟨ad,0,none⟩))),(9,.map (some J))]∧Wd B h' w∧St S' (MI (λk:AU=>Value.agg (AU.v k).toArray) OT t ad i g::MP (λk:AU=>Value.agg (AU.v k).toArray) Value.bool J A::L) h'∧Bg av ax S' h'∧g.length<n1∧cond (List.all g (λe=>(Fo N A e).isNone)) (Fp N) (some false)=some r) (i.length+1) ?_ ?_ ?_))
   ·
    intro aa ww hf hw
    exact⟨i,_,_,hf.sub (kp [62,9] O),hw,bj,(Bg.refl av ax),Nat.lt_succ_self _,E⟩
   ·
    rintro aa ww ⟨_,_,_,_,_,_,_,hlt,_⟩
    exact absurd hlt (Nat.not_lt_zero _)
   ·
    rintro n1 aa ww ⟨g,dp,dq,hf,hw,ae,af,hlt,E⟩
    refine WF.run ?_ hf hw
    clear hf hw ww aa
    refine WF.seq (WF.rl (Uy ae O O (λG=>?_) (λd dr ds dt G bk az hen=>?_)))
    ·
     subst G
     have E:Fp N=some r:=E
     rw[Fp] at E
     have bl:=ae.miMP
     refine LF.q 1 (QF.ext O O O (AE (LF.nil (kp [64,62,9] O) (WF.seq (WF.ifF O (JE O (WF.seq (WF.rp (.inl O) (QF.as_ O O (AA (kp [4] O) (WF.ret (λaa ww hf hw=>?_))))))))))))
     have bm:=bl.sel [] 2 O
     cases E
     have bn:=e5.trans (aj.trans (M.trans (ak.trans (am.trans (aw.trans (ay.trans af))))))
     exact DC hf hw O O bn ⟨O,bm⟩
    ·
     subst G
     have E:=SG (f:=Fo N A) (λ_ _ hy=>UV hy) E
     rw[Fo] at E
     simp only[VL,Option.some_or,Option.none_or] at E
     refine LF.q 1 (QF.ext O O O (AE (LF.nil (kp [64,62,9] O) (WF.seq (WF.ifT O (WF.skip (WF.block (WF.seq (WF.rl (LF.q 3 (SX O hen O (QF.ext O O O (QF.ext O O O ?_)))))))))))))
     refine AE (LF.al QQ O bk λdu dv bo a0=>Ai (vs:=[.int .i64 d.1.at_,.int .i64 d.1.to_]) O O O O KC O bo .head O λdw y a1=>LF.q 1 (QF.as_ O O (AE (LF.nil (kp [14,13,62,9] O) (WF.seq (WF.rp (.inl O) (QF.mv O O (QF.ldo (vs:=[.int .i64 d.1.at_,.int .i64 d.1.to_]) Af y O mh O O KC O O (O8 (k0:=d.1) (z:=false) Af y (mt (mt mh)) O O So Li Xl O O (QF.not O O (QF.mv O O ?_)))))))))))
     refine QF.cutv 3 75 (.bool ((!((KL (λk:AU=>Value.agg (AU.v k).toArray) A d.1).getD false))&&(decide ((A3 d.2)≠0)))) ?_ ?_
     ·
      cases dx:(!((KL (λk:AU=>Value.agg (AU.v k).toArray) A d.1).getD false))
      ·exact AL O O
      ·exact QF.gy O O O (QF.mv O O (QF.gy O O O (QF.neq O O O (QF.pick O O O (AJ O)))))
     refine AA (kp [75,62,9] O) (WF.if_ O (λag=>?_) (λag=>?_))
     ·
      have E:=A7 ag E
      refine WF.seq (WF.rp (.inl O) (QF.as_ O O (AA (kp [4] O) (WF.ret (λaa ww hf hw=>?_)))))
      have bp:=y.sel [] 3 O
      cases E
      have bq:=e5.trans (aj.trans (M.trans (ak.trans (am.trans (aw.trans (ay.trans (af.trans (az.trans (a0.trans a1)))))))))
      exact DC hf hw O O bq ⟨O,bp⟩
     ·
      have E:=A8 ag E
      refine WF.skip (Ap (WF.nil (λaa ww hf hw=>?_)))
      have br:=y.sel [1,1] 1 O
      have bt:=af.trans (az.trans (a0.trans a1))
      exact⟨_,_,_,hf.sub (kp [62,9] O),hw,br,bt,(by simp only[List.length_append,List.length_cons] at hlt ⊢;omega),E⟩
end Go.Proofs.YtibidnaedddfdaaGreat
