import Derived.Test.YtibidnaedddfdaaGreatAWalk2
namespace Go.Proofs.YtibidnaedddfdaaGreat
open Go.RowKit
set_option linter.unusedVariables false
set_option linter.unusedSimpArgs false
set_option maxRecDepth 10000
set_option maxHeartbeats 2000000
variable {N:Nat}{S:Nat→Prop}{L:List HP}{h:Ad}
theorem MN (hs:St S L h) {c:Int}(i:AB c) {a:Value}{c1_:(List BA)}(d:Pt S h (AW.sl A8) a c1_) {b:Value}{c2_:Int}(g:Pt S h AW.int b c2_) {r:Bool}(E:FM N c1_ c2_ c=some r):
 BP Tryz.prog 183 #[.int .i64 c,a,b] S h (λv S' h'=>v= .bool r∧St S' (L) h'):=by
 refine Ac (l:=[.int .i64 c,a,b]) 12 Tryz.func183 O Tryz.ntmps183 O λB=>?_
 rw[FM] at E
 refine WF.seq (WF.rp (.inl O) (QF.as_ O O (AA (kp [0,1,2] O) (WF.seq (WF.rp (.inr ⟨mo,by kernel_rfl⟩) (QF.ldl Aa hs.1 O d GU O λo k=>QF.mv O O ?_))))))
 obtain⟨p,j,E⟩:=bd E
 refine QF.ixe O O k GG j O λq m=>QF.fa O m I0 HF O λs n=>QF.ldi Aa hs.1 O n AN O λt=>QF.ldi Aa hs.1 O g AN O λu=>QF.gtr O O O (QF.as_ O O (AA (kp [4] O) (WF.ret (λaa ww hf hw=>?_))))
 cases E
 exact CS hf hw O O (BO.refl S h) ⟨O,hs⟩
theorem IL (hs:St S L h) {d:Value}{i:(List BA)}(n:Sl S h A8 d i) {b:Int}(s:AB b) {r:Int×Bool}(E:Fj N i b=some r):
 BP Tryz.prog 170 #[d,.int .i64 b] S h (λv S' h'=>v= .tuple #[.int .i64 r.1,.bool r.2]∧AB r.1∧St S' (L) h'):=by
 refine Ac (l:=[d,.int .i64 b]) 63 Tryz.func170 O Tryz.ntmps170 O λB=>?_
 rw[Fj] at E
 refine WF.seq (WF.rl (LF.boxp O (RP n) (λ_=>rfl) O hs λq1 S2 h3 ag e5 k6=>LF.boxp O (⟨_,O,O,s⟩:Rd _ _ AW.int _ b) (λ_=>rfl) O ag λq7 S8 h9 j t F=>LF.q 2 (QF.as_ O O (QF.as_ O O (AE (LF.nil (kp [3,2] O) (WF.seq (WF.rc (.inl O) j ?_))))))))
 have u:=k6.mono t
 refine QF.ldl Ak j.1 O u GU O λa7 ah=>QF.len O ah GG O λai=>QF.mkf O O O ?_
 have G:Rd S8 h9 (AW.fn Tryz.prog (λx:Int=>([.int .i64 x]:List Value)) (λx:Int=>AB x) (λy:Bool=> .bool y) (λy:Bool=>True)) (.func (.func 183) #[] #[q1,q7]) (λx=>FM N i b x):=Jx 183 #[q1,q7] WD λS' h' s' e' L hs x y h1 h2=>(MN hs h1 (u.mono'' s' e') (F.mono'' s' e') h2).mono λ_ _ _ _ p=>⟨p.1,trivial,p.2⟩
 obtain⟨a8,H,E⟩:=bd E
 refine Af O O O WJ O (λh' o=>M7 (St.all h') (IJ ai) (G.mono (o.all j.1)) H) λaj=>?_
 have a9:=aj
 refine QF.as_ O O (Ai (kp [6,3,2] O) λba c g=>WF.seq (WF.seq (WF.rp (.inl O) (QF.mv O O (QF.eql O O O (AA (kp [16,6,3,2] O) (WF.if_ O (λA=>?_) (λA=>?_))))))))
 ·
  have E:=Av A E
  refine WF.seq (WF.rp (.inl O) ?_)
  have ak:=u.mono g
  refine QF.ldl Aa c.1 O ak GU O λbb am=>?_
  obtain⟨bc,I,E⟩:=bd E
  refine QF.ixe O O am GG I O λbe an=>QF.fa O an Iz GW O λbf ao=>QF.ldi Aa c.1 O ao AN O λap=>QF.as_ O O (QF.as_ O O (AA (kp [5,4] O) (WF.ret (λaa ww hf hw=>?_))))
  cases E
  have J:=e5.trans (t.trans g)
  exact Hb hf O hw (GF (IG hf (v:=_) O) (GF (IG hf (v:=_) O) HW)) O J ⟨O,ap,c⟩
 ·
  have E:=Aw A E
  refine WF.skip (WF.seq (WF.rl (LF.q 5 ?_)))
  have K:=u.mono g
  refine QF.ldl Aa c.1 O K GU O λbg aq=>QF.mv O O (QF.subw O O O ?_)
  obtain⟨M,Q,E⟩:=bd E
  refine QF.ixe O O aq GG Q O λbh ar=>QF.ld Aa c.1 O ar Ms (λe=>by cases e) O λbi au=>AE (LF.al Qh O c λbj bk U k=>?_)
  have av:=au.mono k
  obtain⟨rfl,⟨bl,aw⟩⟩:=A8.ex av
  refine Aj (vs:=[.int .i64 M.X,.int .i64 M.Y]) O O O O Ms O U .head O λbm a w=>LF.nil (kp [7,6,3,2] O) (WF.seq (WF.seq (WF.rp (.inl O) (QF.mv O O ?_))))
  have C:=K.mono (k.trans w)
  refine QF.ldl Aa a.1 O C GU O λbn ax=>QF.len O ax GG O λbo=>QF.eql O O O (AA (kp [29,7,6,3,2] O) (WF.if_ O (λD=>?_) (λD=>?_)))
  ·
   have E:=Av D E
   refine WF.seq (WF.rp (.inl O) (QF.fao O GW O (AI Aa a O mh O AN O (QF.as_ O O (QF.as_ O O (AA (kp [5,4] O) (WF.ret (λaa ww hf hw=>?_))))))))
   have V:=a.drop .head
   cases E
   have W:=e5.trans (t.trans (g.trans (k.trans w)))
   exact Hb hf O hw (GF (IG hf (v:=_) O) (GF (IG hf (v:=_) O) HW)) O W ⟨O,aw,V⟩
  ·
   have E:=Aw D E
   refine WF.skip (WF.seq (WF.rc (.inr ⟨mo,by kernel_rfl⟩) a ?_))
   have Z:=g.trans (k.trans w)
   have ay:=F.mono Z
   refine QF.ldi Ak a.1 O ay AN O λbp=>QF.fao O HF O (AI Ak a O mh O AN O (QF.subw O O O (QF.ldl Ak a.1 O C GU O λbq az=>QF.mv O O ?_)))
   obtain⟨br,ab,E⟩:=bd E
   refine QF.ixe O O az GG ab O λbt a0=>QF.fa O a0 Iz GW O λbu a1=>QF.ldi Ak a.1 O a1 AN O λbv=>QF.fao O GW O (AI Ak a O mh O AN O (QF.subw O O O (QF.ldl Ak a.1 O C GU O λbw a2=>QF.mv O O ?_)))
   obtain⟨bx,ac,E⟩:=bd E
   refine QF.ixe O O a2 GG ac O λbz a3=>QF.fa O a3 I0 HF O λb0 a4=>QF.ldi Ak a.1 O a4 AN O λb1=>QF.fao O HF O (AI Ak a O mh O AN O (QF.subw O O O ?_))
   obtain⟨m,ad,E⟩:=bd E
   refine GL (v:= .tuple #[.int .i64 m.1,.int .i64 m.2.1,.bool m.2.2]) (Ψ:=AB m.1∧AB m.2.1) O O O O6 O (λh' o=>(HN (St.all h') (Au _) (Au _) (Au _) ad).mono λ_ _ _ _ p=>⟨p.1,⟨p.2.1,p.2.2.1⟩⟩) λa5=>?_
   obtain⟨b2,b3⟩:=a5
   refine QF.mv O O (QF.ext O O O (QF.ext O O O (QF.ext O O O (QF.as_ O O (QF.as_ O O (QF.as_ O O (Ai (kp [9,8,7] O) λb4 z a6=>WF.seq (WF.rp (.inl O) (QF.fao O GW O (AI Aa z O mh O AN O (QF.mv O O (QF.addw O O O ?_))))))))))))
   refine QF.mv O O (QF.gtr O O O (QF.as_ O O (QF.as_ O O (AA (kp [5,4] O) (WF.ret (λaa ww hf hw=>?_))))))
   have ae:=z.drop .head
   cases E
   have af:=e5.trans (t.trans (g.trans (k.trans (w.trans a6))))
   exact Hb hf O hw (GF (IG hf (v:=_) O) (GF (IG hf (v:=_) O) HW)) O af ⟨O,(Au _),ae⟩
theorem O2 (hs:St S L h) {a:Value}{g:(List BA)}(b:Sl S h A8 a g) {c:Int}(d:AB c) {r:Int}(E:Ls N g c=some r):
 BP Tryz.prog 174 #[a,.int .i64 c] S h (λv S' h'=>v= .int .i64 r∧AB r∧St S' (L) h'):=by
 refine Ac (l:=[a,.int .i64 c]) 17 Tryz.func174 O Tryz.ntmps174 O λB=>?_
 rw[Ls] at E
 refine WF.seq (WF.rp (.inl O) (QF.as_ O O (AA (kp [0,1] O) (WF.seq (WF.seq (WF.rc (.inl O) hs (QF.mv O O ?_)))))))
 obtain⟨y,k,E⟩:=bd E
 refine AZ O O O Ns O (λh' o=>El (St.all h') (b.mono' (o.all hs.1)) k) (QF.not O O (Ai (kp [9,0,1] O) λz i m=>WF.if_ O (λp=>?_) (λp=>?_)))
 ·
  have E:=Av p E
  refine WF.seq (WF.rp (.inl O) (QF.as_ O O (AA (kp [4] O) (WF.ret (λaa ww hf hw=>?_)))))
  cases E
  exact CS hf hw O O m ⟨O,(iq (n:=0) O),i⟩
 ·
  have E:=Aw p E
  refine WF.skip (WF.seq (WF.rc (.inl O) i (QF.mv O O (QF.mv O O ?_))))
  have u:=b.mono' m
  obtain⟨A,q,E⟩:=bd E
  refine Af O O O QT O (λh' o=>IL (St.all h') (u.mono' (o.all i.1)) d q) λw=>?_
  have s:=w
  refine QF.mv O O (QF.ext O O O (QF.ext O O O (QF.as_ O O (QF.as_ O O (Ai (kp [5] O) λx j t=>WF.seq (WF.rp (.inl O) (QF.mv O O (QF.as_ O O (AA (kp [4] O) (WF.ret (λaa ww hf hw=>?_)))))))))))
  cases E
  exact CS hf hw O O (m.trans t) ⟨O,s,j⟩
theorem Lc (hs:St S L h) {s:Value}{k:AX}(F:Rd S h A0 s k) {d:Int}(m:AB d) {c:Bool}{j:Value}{A:(List BA)}(G:Sl S h A8 j A) {b:Int}(g:AB b) {i:Int}(C:AB i) {r:Int}(E:JD N k d c A b i=some r):
 BP Tryz.prog 150 #[s,.int .i64 d,.bool c,j,.int .i64 b,.int .i64 i] S h (λv S' h'=>v= .int .i64 r∧AB r∧St S' (L) h'):=by
 refine Ac (l:=[s,.int .i64 d,.bool c,j,.int .i64 b,.int .i64 i]) 63 Tryz.func150 O Tryz.ntmps150 O λB=>?_
 rw[JD] at E
 refine WF.seq (WF.rl (LF.boxp O F (λe=>by cases e) O hs λq1 y z t I k6=>LF.q 1 (QF.as_ O O (AE (LF.nil (kp [6,1,2,3,4,5] O) (WF.seq (WF.seq (WF.rp (.inl O) (QF.fa O k6 AX.f_Kind Ck O λq7 k8=>QF.ldi Aa t.1 O k8 AN O λr9=>AA (kp [14,6,1,2,3,4,5] O) (WF.blockJ (λa w=>IV B y z (63,[]) a w [] (L) λ_ _=>Gl N=some r) ?_ ?_))))))))))
 ·
  refine WF.seq (WF.blockJ (λa w=>IV B y z (63,[]) a w [(6,q1),(4,.int .i64 b)] (L) λ_ _=>Gk N k b=some r) ?_ ?_)
  ·
   refine WF.seq (WF.blockJ (λa w=>IV B y z (63,[]) a w [(6,q1),(2,.bool c),(4,.int .i64 b)] (L) λ_ _=>Iw N c (Gk N k b)=some r) ?_ ?_)
   ·
    refine WF.seq (WF.blockJ (λa w=>IV B y z (63,[]) a w [(6,q1),(2,.bool c),(4,.int .i64 b)] (L) λ_ _=>Iv N k c b (Gl N)=some r) ?_ ?_)
    ·
     refine WF.seq (WF.blockJ (λa w=>IV B y z (63,[]) a w [(6,q1),(1,.int .i64 d)] (L) λ_ _=>Iu N k d=some r) ?_ ?_)
     ·
      refine WF.seq (WF.blockJ (λa w=>IV B y z (63,[]) a w [(6,q1),(1,.int .i64 d),(3,j),(4,.int .i64 b),(5,.int .i64 i)] (L) λ_ _=>It N k d A b i=some r) ?_ ?_)
      ·
       refine WF.seq (WF.seq (WF.seq (WF.rp (.inl O) (QF.eql O O O (QF.as_ O O (AA (kp [15,14,6,1,2,3,4,5] O) (WF.if_ O (λJ=>?_) (λJ=>?_))))))))
       ·
        have E:=Av J E
        refine WF.exit O (λaa ww hf hw=>?_)
        exact⟨_,_,hf.sub (kp [6,1,3,4,5] O),hw,t,(BO.refl y z),E⟩
       ·
        have E:=Aw J E
        refine WF.skip (WF.seq (WF.seq (WF.rp (.inl O) (QF.eql O O O (QF.as_ O O (AA (kp [17,14,6,1,2,4] O) (WF.if_ O (λK=>?_) (λK=>?_))))))))
        ·
         have E:=Av K E
         refine WF.exit O (λaa ww hf hw=>?_)
         exact⟨_,_,hf.sub (kp [6,1] O),hw,t,(BO.refl y z),E⟩
        ·
         have E:=Aw K E
         refine WF.skip (WF.seq (WF.seq (WF.rp (.inl O) (QF.eql O O O (QF.as_ O O (AA (kp [19,14,6,2,4] O) (WF.if_ O (λM=>?_) (λM=>?_))))))))
         ·
          have E:=Av M E
          refine WF.exit O (λaa ww hf hw=>?_)
          exact⟨_,_,hf.sub (kp [6,2,4] O),hw,t,(BO.refl y z),E⟩
         ·
          have E:=Aw M E
          refine WF.skip (WF.seq (WF.seq (WF.rp (.inl O) (QF.eql O O O (QF.as_ O O (AA (kp [21,14,6,2,4] O) (WF.if_ O (λQ=>?_) (λQ=>?_))))))))
          ·
           have E:=Av Q E
           refine WF.exit O (λaa ww hf hw=>?_)
           exact⟨_,_,hf.sub (kp [6,2,4] O),hw,t,(BO.refl y z),E⟩
          ·
           have E:=Aw Q E
           refine WF.skip (WF.seq (WF.rp (.inl O) (QF.eql O O O (QF.as_ O O (AA (kp [23,6,4] O) (WF.if_ O (λU=>?_) (λU=>?_)))))))
           ·
            have E:=Av U E
            refine WF.exit O (λaa ww hf hw=>?_)
            exact⟨_,_,hf.sub (kp [6,4] O),hw,t,(BO.refl y z),E⟩
           ·
            have E:=Aw U E
            refine WF.skip (WF.exit O (λaa ww hf hw=>?_))
            exact⟨_,_,hf.sub KI,hw,t,(BO.refl y z),E⟩
      ·
       rintro aa ww ⟨ce,cf,hf,hw,p,V,E⟩
       refine WF.run ?_ hf hw
       clear hf hw ww aa
       rw[It] at E
       refine WF.seq (WF.seq (WF.rc (.inr ⟨mo,by kernel_rfl⟩) p (QF.mv O O ?_)))
       have W:=k6.mono V
       refine QF.ld Ak p.1 O W C3 (λe=>by cases e) O λcg a8=>QF.mv O O (QF.mv O O ?_)
       obtain⟨ch,ag,E⟩:=bd E
       refine Af O O O WE O (λh' o=>N9 (St.all h') (a8.mono (o.all p.1)) g C ag) λa9=>?_
       have ba:=a9
       have bb:=G.mono' (I.trans V)
       obtain⟨ci,ah,E⟩:=bd E
       refine Af O O O WG O (λh' o=>O2 (St.all h') (bb.mono' (o.all p.1)) ba ah) λbc=>?_
       have be:=bc
       refine QF.mv O O (QF.fa O W BZ FW O λcj bf=>QF.ldi Ak p.1 O bf AN O λbg=>?_)
       obtain⟨ck,ai,E⟩:=bd E
       refine Af O O O Nw O (λh' o=>G9 (St.all h') be m bg ai) λbh=>?_
       have bi:=bh
       refine QF.fa O W J2 Nk O λcl bj=>QF.ldi Ak p.1 O bj AN O λbk=>?_
       obtain⟨cm,aj,E⟩:=bd E
       refine Af O O O KA O (λh' o=>Cs (St.all h') bi bk aj) λbl=>?_
       have bm:=bl
       refine QF.as_ O O (Ai (kp [12] O) λcn ak bn=>WF.ret (λaa ww hf hw=>?_))
       cases E
       have am:=I.trans (V.trans bn)
       exact CS hf hw O O am ⟨O,bm,ak⟩
     ·
      rintro aa ww ⟨co,cp,hf,hw,D,an,E⟩
      refine WF.run ?_ hf hw
      clear hf hw ww aa
      rw[Iu] at E
      refine WF.seq (WF.seq (WF.rc (.inl O) D ?_))
      have ao:=k6.mono an
      refine QF.fa O ao AX.f_Num Fw O λcq bo=>QF.ldi Ak D.1 O bo AN O λbp=>QF.mv O O (QF.fa O ao BZ FW O λcr bq=>QF.ldi Ak D.1 O bq AN O λbr=>?_)
      obtain⟨cs,ap,E⟩:=bd E
      refine Af O O O Nw O (λh' o=>G9 (St.all h') bp m br ap) λbt=>?_
      have bu:=bt
      refine QF.as_ O O (Ai (kp [12] O) λct aq bv=>WF.ret (λaa ww hf hw=>?_))
      cases E
      have ar:=I.trans (an.trans bv)
      exact CS hf hw O O ar ⟨O,bu,aq⟩
    ·
     rintro aa ww ⟨cu,cv,hf,hw,u,X,E⟩
     refine WF.run ?_ hf hw
     clear hf hw ww aa
     rw[Iv] at E
     refine WF.seq (WF.seq (WF.rp (.inl O) (QF.mv O O (AA (kp [44,6,4] O) (WF.if_ O (λY=>?_) (λY=>?_))))))
     ·
      have E:=Av Y E
      refine WF.seq (WF.rc (.inl O) u (QF.mv O O ?_))
      have au:=k6.mono X
      refine QF.fa O au AX.f_Num Fw O λcw bw=>QF.ldi Ak u.1 O bw AN O λbx=>QF.fa O au AX.f_Den Gs O λcx bz=>QF.ldi Ak u.1 O bz AN O λb0=>?_
      obtain⟨cy,av,E⟩:=bd E
      refine Af O O O Nw O (λh' o=>G9 (St.all h') g bx b0 av) λb1=>?_
      have b2:=b1
      refine QF.as_ O O (Ai (kp [12] O) λcz aw b3=>WF.ret (λaa ww hf hw=>?_))
      cases E
      have ax:=I.trans (X.trans b3)
      exact CS hf hw O O ax ⟨O,b2,aw⟩
     ·
      have E:=Aw Y E
      refine WF.skip (WF.exit O (λaa ww hf hw=>?_))
      exact⟨_,_,hf.sub KI,hw,u,X,E⟩
   ·
    rintro aa ww ⟨c0,c1,hf,hw,H,ay,E⟩
    refine WF.run ?_ hf hw
    clear hf hw ww aa
    rw[Iw] at E
    refine WF.seq (WF.rp (.inl O) (QF.mv O O (QF.not O O (AA (kp [52,6,4] O) (WF.if_ O (λZ=>?_) (λZ=>?_))))))
    ·
     have E:=Av Z E
     refine WF.seq (WF.rp (.inl O) (QF.as_ O O (AA (kp [12] O) (WF.ret (λaa ww hf hw=>?_)))))
     cases E
     exact CS hf hw O O (I.trans ay) ⟨O,(iq (n:=0) O),H⟩
    ·
     have E:=Aw Z E
     refine WF.skip (WF.nil (λaa ww hf hw=>?_))
     exact⟨_,_,hf.sub (kp [6,4] O),hw,H,ay,E⟩
  ·
   rintro aa ww ⟨c2,c3,hf,hw,x,az,E⟩
   refine WF.run ?_ hf hw
   clear hf hw ww aa
   rw[Gk] at E
   refine WF.seq (WF.seq (WF.rc (.inr ⟨mo,by kernel_rfl⟩) x (QF.mv O O ?_)))
   have ab:=k6.mono az
   refine QF.fa O ab JS Nj O λc4 b4=>QF.ldi Ak x.1 O b4 AN O λb5=>?_
   obtain⟨c5,a0,E⟩:=bd E
   refine Af O O O H2 O (λh' o=>CW (St.all h') g b5 a0) λb6=>?_
   have b7:=b6
   refine QF.max O O O (QF.fa O ab AX.f_Num Fw O λc6 b8=>QF.ldi Ak x.1 O b8 AN O λa1=>QF.fa O ab AX.f_Den Gs O λb9 a2=>QF.ldi Ak x.1 O a2 AN O λa3=>?_)
   obtain⟨ca,ac,E⟩:=bd E
   refine Af O O O Nw O (λh' o=>G9 (St.all h') (GQ (iq (n:=0) O) b7) a1 a3 ac) λa4=>?_
   have a5:=a4
   refine QF.as_ O O (Ai (kp [12] O) λcb ad a6=>WF.ret (λaa ww hf hw=>?_))
   cases E
   have ae:=I.trans (az.trans a6)
   exact CS hf hw O O ae ⟨O,a5,ad⟩
 ·
  rintro aa ww ⟨cc,cd,hf,hw,af,a7,E⟩
  refine WF.run ?_ hf hw
  clear hf hw ww aa
  rw[Gl] at E
  refine WF.seq (WF.rp (.inl O) (QF.as_ O O (AA (kp [12] O) (WF.ret (λaa ww hf hw=>?_)))))
  cases E
  exact CS hf hw O O (I.trans a7) ⟨O,(iq (n:=0) O),af⟩
theorem M9 (hs:St S L h) {d:Value}{w:AX}(p:Rd S h A0 d w) {g:Value}{x:AT}(q:Rd S h Ab g x) {b:Value}{i:AF}(j:Rd S h AK b i) {c:Value}{k:AF}(m:Rd S h AK c k) {r:AF}(E:JO N w x i k=some r):
 BP Tryz.prog 110 #[d,g,b,c] S h (λv S' h'=>v= .agg #[.int .i64 r.Lo,.int .i64 r.Hi]∧AF.ok r∧St S' (L) h'):=by
 refine Ac (l:=[d,g,b,c]) 42 Tryz.func110 O Tryz.ntmps110 O λB=>?_
 rw[JO] at E
 refine WF.seq (WF.rl (LF.boxp O p (λe=>by cases e) O hs λq1 S2 h3 Z e5 k6=>?_))
 have k7:=q.mono e5
 refine LF.boxp O k7 (λe=>by cases e) O Z λq8 S9 bg F A ab=>?_
 have ac:=j.mono (e5.trans A)
 refine LF.boxp O ac (λe=>by cases e) O F λbh bi bj G C ad=>?_
 have y:=e5.trans (A.trans C)
 have ae:=m.mono y
 refine LF.boxp O ae (λe=>by cases e) O G λbk bl bm H s af=>LF.al EL O H λbn bo a n=>LF.nil (kp [8,7,6,5,4] O) (WF.seq (EC 33 mo (by kernel_rfl) O a ?_))
 have I:=A.trans (C.trans (s.trans n))
 have t:=k6.mono I
 refine QF.ld Ak a.1 O t C3 (λe=>by cases e) O λbp ag=>?_
 have J:=C.trans (s.trans n)
 have u:=ab.mono J
 refine QF.fa O u AT.f_Pos He O λbq ah=>QF.fa O ah AF.f_Lo Cj O λbr ai=>QF.ldi Ak a.1 O ai AN O λaj=>QF.fa O u AT.f_Open Hd O λbt ak=>QF.fa O ak AF.f_Lo Cj O λbu am=>QF.ldi Ak a.1 O am AN O λbv=>QF.geq O O O (QF.fa O t Fg HA O λbw an=>QF.fa O an I4.f_Lo Kv O λbx ao=>QF.ldl Ak a.1 O ao GU O λbz ap=>?_)
 have K:=ad.mono (s.trans n)
 refine QF.fa O K AF.f_Lo Cj O λb0 aq=>QF.ldi Ak a.1 O aq AN O λar=>?_
 have M:=af.mono n
 refine QF.fa O M AF.f_Hi CT O λb1 au=>QF.ldi Ak a.1 O au AN O λav=>?_
 obtain⟨Q,U,E⟩:=bd E
 refine Af O O O Tn O (λh' o=>Lc (St.all h') (ag.mono (o.all a.1)) aj (ap.mono' (o.all a.1)) ar av U) λaw=>?_
 have ax:=aw
 refine QF.ld Ak a.1 O t C3 (λe=>by cases e) O λb2 ay=>QF.fa O u AT.f_Pos He O λb3 az=>QF.fa O az AF.f_Hi CT O λb4 a0=>QF.ldi Ak a.1 O a0 AN O λa1=>QF.fa O u AT.f_Open Hd O λb5 a2=>QF.fa O a2 AF.f_Hi CT O λb6 a3=>QF.ldi Ak a.1 O a3 AN O λb7=>QF.geq O O O (QF.fa O t Fg HA O λb8 a4=>QF.fa O a4 I4.f_Hi Ku O λb9 a5=>QF.ldl Ak a.1 O a5 GU O λca a6=>QF.fa O K AF.f_Hi CT O λcb a7=>QF.ldi Ak a.1 O a7 AN O λa8=>QF.fa O M AF.f_Lo Cj O λcc a9=>?_)
 refine QF.ldi Ak a.1 O a9 AN O λba=>?_
 obtain⟨V,W,E⟩:=bd E
 refine Af O O O Tn O (λh' o=>Lc (St.all h') (ay.mono (o.all a.1)) a1 (a6.mono' (o.all a.1)) a8 ba W) λbb=>?_
 have bc:=bb
 refine QF.bld (cs:=[.int .i64 Q,.int .i64 V]) Ga O O O (C1 λcd X be=>Aj (vs:=[.int .i64 Q,.int .i64 V]) O O O O Ag O X .head O λce z bf=>LF.nil (kp [8] O) (WF.ret (λaa ww hf hw=>?_)))
 have Y:=z.drop .head
 cases E
 have D:=y.trans (s.trans (n.trans (be.trans bf)))
 exact Hb hf O hw (GF (Md hf hw z O mh Ag O) HW) O D ⟨O,⟨ax,bc⟩,Y⟩
theorem KM (hs:St S L h) {g:Int}(i:AB g) {a:Value}{c1_:AX}(k:Pt S h A0 a c1_) {b:Value}{c2_:AT}(m:Pt S h Ab b c2_) {c:Value}{c3_:AF}(n:Pt S h AK c c3_) {r:AF}(E:Dy N c1_ c2_ c3_ g=some r):
 BP Tryz.prog 109 #[.int .i64 g,a,b,c] S h (λv S' h'=>v= .agg #[.int .i64 r.Lo,.int .i64 r.Hi]∧AF.ok r∧St S' (L) h'):=by
 refine Ac (l:=[.int .i64 g,a,b,c]) 12 Tryz.func109 O Tryz.ntmps109 O λB=>?_
 rw[Dy] at E
 refine WF.seq (WF.rl (LF.al EL O hs λb1 h2 d y=>LF.nil (kp [5,0,1,2,3] O) (WF.seq (EC 6 mo (by kernel_rfl) O d ?_))))
 have U:=k.mono y
 refine QF.ld Ak d.1 O U C3 (λe=>by cases e) O λv6 V=>?_
 have W:=m.mono y
 refine QF.ld Ak d.1 O W GT (λe=>by cases e) O λv9 z=>QF.mv O O ?_
 obtain⟨A,p,E⟩:=bd E
 refine Af O O O JF O (λh' o=>C5 (St.all h') i p) λC=>?_
 obtain⟨D,F⟩:=C
 have G:=n.mono y
 refine QF.ld Ak d.1 O G Ag (λe=>by cases e) O λX H=>?_
 obtain⟨q,s,E⟩:=bd E
 refine Af O O O WW O (λh' o=>M9 (St.all h') (V.mono (o.all d.1)) (z.mono (o.all d.1)) (AK.mk (x:=A) ⟨D,F⟩) (H.mono (o.all d.1)) s) λI=>?_
 obtain⟨J,K⟩:=I
 refine C1 λY t M=>Aj (vs:=[.int .i64 q.Lo,.int .i64 q.Hi]) O O O O Ag O t .head O λZ j Q=>LF.nil (kp [5] O) (WF.ret (λaa ww hf hw=>?_))
 have u:=j.drop .head
 cases E
 have w:=y.trans (M.trans Q)
 exact Hb hf O hw (GF (Md hf hw j O mh Ag O) HW) O w ⟨O,⟨J,K⟩,u⟩
theorem LZ (hs:St S L h) {c:Int}(i:AB c) {a:Int}(d:AB a) {b:Int}(g:AB b) {r:Int}(E:JC N c a b=some r):
 BP Tryz.prog 176 #[.int .i64 c,.int .i64 a,.int .i64 b] S h (λv S' h'=>v= .int .i64 r∧AB r∧St S' (L) h'):=by
 refine Ac (l:=[.int .i64 c,.int .i64 a,.int .i64 b]) 21 Tryz.func176 O Tryz.ntmps176 O λB=>?_
 rw[JC] at E
 refine WF.seq (WF.rp (.inl O) (QF.as_ O O (AA (kp [0,1,2] O) (WF.seq (WF.rc (.inl O) hs (QF.mv O O (QF.mv O O (QF.mv O O ?_))))))))
 obtain⟨j,m,E⟩:=bd E
 refine GL (v:= .tuple #[.int .i64 j.1,.int .i64 j.2.1,.bool j.2.2]) (Ψ:=AB j.1∧AB j.2.1) O O O O6 O (λh' o=>(HN (St.all h') i d g m).mono λ_ _ _ _ p=>⟨p.1,⟨p.2.1,p.2.2.1⟩⟩) λt=>?_
 obtain⟨u,w⟩:=t
 refine QF.mv O O (QF.ext O O O (QF.ext O O O (QF.ext O O O (QF.as_ O O (QF.as_ O O (QF.as_ O O (Ai (kp [9,7] O) λx k s=>WF.seq (WF.seq (WF.rp (.inl O) (QF.mv O O (QF.not O O (AA (kp [19,7] O) ?_))))))))))))
 refine WF.if_ O (λq=>?_) (λq=>?_)
 ·
  have E:=Av q E
  refine WF.seq (WF.rp (.inl O) (QF.as_ O O (AA (kp [6] O) (WF.ret (λaa ww hf hw=>?_)))))
  cases E
  exact CS hf hw O O s ⟨O,(iq (n:=0) O),k⟩
 ·
  have E:=Aw q E
  refine WF.skip (WF.seq (WF.rp (.inl O) (QF.mv O O (QF.as_ O O (AA (kp [6] O) (WF.ret (λaa ww hf hw=>?_)))))))
  cases E
  exact CS hf hw O O s ⟨O,u,k⟩
theorem L4 (hs:St S L h) {b:Value}{k:AX}(j:Rd S h A0 b k) {a:Int}(d:AB a) {c:Int}(i:AB c) {r:Int}(E:Jq N k a c=some r):
 BP Tryz.prog 151 #[b,.int .i64 a,.int .i64 c] S h (λv S' h'=>v= .int .i64 r∧AB r∧St S' (L) h'):=by
 refine Ac (l:=[b,.int .i64 a,.int .i64 c]) 23 Tryz.func151 O Tryz.ntmps151 O λB=>?_
 rw[Jq] at E
 refine WF.seq (WF.rl (LF.boxp O j (λe=>by cases e) O hs λq1 S2 h3 g J p=>LF.q 1 (QF.as_ O O (AE (LF.nil (kp [3,1,2] O) (WF.seq (WF.seq (WF.rp (.inl O) (QF.fa O p AX.f_Kind Ck O λq7 K=>QF.ldi Aa g.1 O K AN O λr9=>QF.neq O O O (AA (kp [9,3,1,2] O) ?_))))))))))
 refine WF.if_ O (λm=>?_) (λm=>?_)
 ·
  have E:=Av m E
  refine WF.seq (WF.rp (.inl O) (QF.as_ O O (AA (kp [6] O) (WF.ret (λaa ww hf hw=>?_)))))
  cases E
  exact CS hf hw O O J ⟨O,(iq (n:=0) O),g⟩
 ·
  have E:=Aw m E
  refine WF.skip (WF.seq (WF.rc (.inr ⟨mo,by kernel_rfl⟩) g (QF.mv O O (QF.fa O p AX.f_Num Fw O λM w=>QF.ldi Ak g.1 O w AN O λx=>QF.fa O p AX.f_Den Gs O λQ y=>QF.ldi Ak g.1 O y AN O λz=>?_))))
  obtain⟨U,s,E⟩:=bd E
  refine Af O O O Tl O (λh' o=>LZ (St.all h') d x z s) λA=>?_
  have V:=A
  refine QF.mv O O (QF.fa O p GO Hw O λW C=>QF.ldi Ak g.1 O C AN O λD=>QF.fa O p FQ HZ O λX F=>QF.ldi Ak g.1 O F AN O λG=>?_)
  obtain⟨Y,t,E⟩:=bd E
  refine Af O O O Tl O (λh' o=>LZ (St.all h') i D G t) λH=>?_
  have Z:=H
  refine QF.subw O O O (QF.as_ O O (Ai (kp [6] O) λab u I=>WF.ret (λaa ww hf hw=>?_)))
  cases E
  exact CS hf hw O O (J.trans I) ⟨O,(Au _),u⟩
theorem J6 (hs:St S L h) {d:Value}{p:AX}(m:Rd S h A0 d p) {a:Value}{g:AF}(i:Rd S h AK a g) {c:Value}{j:AF}(k:Rd S h AK c j) {r:AF}(E:H4 N p g j=some r):
 BP Tryz.prog 113 #[d,a,c] S h (λv S' h'=>v= .agg #[.int .i64 r.Lo,.int .i64 r.Hi]∧AF.ok r∧St S' (L) h'):=by
 refine Ac (l:=[d,a,c]) 20 Tryz.func113 O Tryz.ntmps113 O λB=>?_
 rw[H4] at E
 refine WF.seq (WF.rl (LF.boxp O m (λe=>by cases e) O hs λq1 S2 h3 K M k6=>?_))
 have k7:=i.mono M
 refine LF.boxp O k7 (λe=>by cases e) O K λq8 S9 ao u s Q=>?_
 have U:=k.mono (M.trans s)
 refine LF.boxp O U (λe=>by cases e) O u λap aq ar w t V=>LF.al EL O w λau av b n=>LF.nil (kp [6,5,4,3] O) (WF.seq (EC 13 mo (by kernel_rfl) O b ?_))
 have x:=s.trans (t.trans n)
 have y:=k6.mono x
 refine QF.ld Ak b.1 O y C3 (λe=>by cases e) O λaw W=>?_
 have z:=Q.mono (t.trans n)
 refine QF.fa O z AF.f_Lo Cj O λax X=>QF.ldi Ak b.1 O X AN O λY=>?_
 have A:=V.mono n
 refine QF.fa O A AF.f_Hi CT O λay Z=>QF.ldi Ak b.1 O Z AN O λab=>?_
 obtain⟨C,D,E⟩:=bd E
 refine Af O O O Tm O (λh' o=>L4 (St.all h') (W.mono (o.all b.1)) Y ab D) λac=>?_
 have ad:=ac
 refine QF.ld Ak b.1 O y C3 (λe=>by cases e) O λaz ae=>QF.fa O z AF.f_Hi CT O λa0 af=>QF.ldi Ak b.1 O af AN O λag=>QF.fa O A AF.f_Lo Cj O λa1 ah=>QF.ldi Ak b.1 O ah AN O λai=>?_
 obtain⟨F,G,E⟩:=bd E
 refine Af O O O Tm O (λh' o=>L4 (St.all h') (ae.mono (o.all b.1)) ag ai G) λaj=>?_
 have ak:=aj
 refine QF.bld (cs:=[.int .i64 C,.int .i64 F]) Ga O O O (C1 λa2 H am=>Aj (vs:=[.int .i64 C,.int .i64 F]) O O O O Ag O H .head O λa3 q an=>LF.nil (kp [6] O) (WF.ret (λaa ww hf hw=>?_)))
 have I:=q.drop .head
 cases E
 have J:=M.trans (s.trans (t.trans (n.trans (am.trans an))))
 exact Hb hf O hw (GF (Md hf hw q O mh Ag O) HW) O J ⟨O,⟨ad,ak⟩,I⟩
theorem I7 (hs:St S L h) {b:Value}{a:AF}(c:Rd S h AK b a) {r:AF}(E:HM N a=some r):
 BP Tryz.prog 112 #[b] S h (λv S' h'=>v= .agg #[.int .i64 r.Lo,.int .i64 r.Hi]∧AF.ok r∧St S' (L) h'):=by
 refine Ac (l:=[b]) 10 Tryz.func112 O Tryz.ntmps112 O λB=>?_
 rw[HM] at E
 refine WF.seq (WF.rl (LF.boxp O c (λe=>by cases e) O hs λD F G o x y=>LF.al EL O o λH I g i=>LF.nil (kp [2,1] O) (WF.seq (WF.rl (LF.q 7 ?_)))))
 have j:=y.mono i
 refine QF.fa O j AF.f_Lo Cj O λz p=>QF.ldi Aa g.1 O p AN O λs=>QF.max O O O (QF.fa O j AF.f_Hi CT O λA t=>QF.ldi Aa g.1 O t AN O λu=>QF.max O O O (QF.bld (cs:=[.int .i64 (max 0 a.Lo),.int .i64 (max 0 a.Hi)]) Ga O O O (AE (Aj (vs:=[.int .i64 (max 0 a.Lo),.int .i64 (max 0 a.Hi)]) O O O O Ag O g .head O λC d w=>LF.nil (kp [2] O) (WF.ret (λaa ww hf hw=>?_))))))
 have k:=d.drop .head
 cases E
 have m:=x.trans (i.trans w)
 exact Hb hf O hw (GF (Md hf hw d O mh Ag O) HW) O m ⟨O,⟨(GQ (iq (n:=0) O) s),(GQ (iq (n:=0) O) u)⟩,k⟩
theorem KL (hs:St S L h) {c:Int}(g:AB c) {a:Value}{c1_:AX}(j:Pt S h A0 a c1_) {b:Value}{c2_:AF}(k:Pt S h AK b c2_) {r:AF}(E:Dx N c1_ c2_ c=some r):
 BP Tryz.prog 111 #[.int .i64 c,a,b] S h (λv S' h'=>v= .agg #[.int .i64 r.Lo,.int .i64 r.Hi]∧AF.ok r∧St S' (L) h'):=by
 refine Ac (l:=[.int .i64 c,a,b]) 11 Tryz.func111 O Tryz.ntmps111 O λB=>?_
 rw[Dx] at E
 refine WF.seq (WF.rl (LF.al EL O hs λb1 h2 d u=>LF.nil (kp [4,0,1,2] O) (WF.seq (EC 6 mo (by kernel_rfl) O d ?_))))
 have U:=j.mono u
 refine QF.ld Ak d.1 O U C3 (λe=>by cases e) O λv6 V=>QF.mv O O ?_
 obtain⟨W,w,E⟩:=bd E
 refine Af O O O JF O (λh' o=>C5 (St.all h') g w) λX=>?_
 obtain⟨y,z⟩:=X
 have A:=k.mono u
 refine QF.ld Ak d.1 O A Ag (λe=>by cases e) O λY C=>?_
 obtain⟨D,m,E⟩:=bd E
 refine Af O O O Tx O (λh' o=>J6 (St.all h') (V.mono (o.all d.1)) (AK.mk (x:=W) ⟨y,z⟩) (C.mono (o.all d.1)) m) λF=>?_
 obtain⟨G,H⟩:=F
 obtain⟨n,p,E⟩:=bd E
 refine Af O O O Ty O (λh' o=>I7 (St.all h') (AK.mk (x:=D) ⟨G,H⟩) p) λI=>?_
 obtain⟨J,K⟩:=I
 refine C1 λZ q M=>Aj (vs:=[.int .i64 n.Lo,.int .i64 n.Hi]) O O O O Ag O q .head O λab i Q=>LF.nil (kp [4] O) (WF.ret (λaa ww hf hw=>?_))
 have s:=i.drop .head
 cases E
 have t:=u.trans (M.trans Q)
 exact Hb hf O hw (GF (Md hf hw i O mh Ag O) HW) O t ⟨O,⟨J,K⟩,s⟩
theorem Og (hs:St S L h) {a:Value}{i:AF}(d:Rd S h AK a i) {b:Value}{j:AF}(g:Rd S h AK b j) {r:AF}(E:Lq N i j=some r):
 BP Tryz.prog 115 #[a,b] S h (λv S' h'=>v= .agg #[.int .i64 r.Lo,.int .i64 r.Hi]∧AF.ok r∧St S' (L) h'):=by
 refine Ac (l:=[a,b]) 16 Tryz.func115 O Tryz.ntmps115 O λB=>?_
 rw[Lq] at E
 refine WF.seq (WF.rl (LF.boxp O d (λe=>by cases e) O hs λq1 S2 h3 C e5 k6=>?_))
 have k7:=g.mono e5
 refine LF.boxp O k7 (λe=>by cases e) O C λq8 S9 ab n p D=>LF.al EL O n λac ad c m=>LF.nil (kp [4,3,2] O) (WF.seq (EC 11 mo (by kernel_rfl) O c ?_))
 have q:=k6.mono (p.trans m)
 refine QF.fa O q AF.f_Lo Cj O λae F=>QF.ldi Ak c.1 O F AN O λG=>?_
 have s:=D.mono m
 refine QF.fa O s AF.f_Hi CT O λaf H=>QF.ldi Ak c.1 O H AN O λI=>?_
 obtain⟨t,u,E⟩:=bd E
 refine Af O O O H2 O (λh' o=>CW (St.all h') G I u) λJ=>?_
 have K:=J
 refine QF.fa O q AF.f_Hi CT O λag M=>QF.ldi Ak c.1 O M AN O λQ=>QF.fa O s AF.f_Lo Cj O λah U=>QF.ldi Ak c.1 O U AN O λV=>?_
 obtain⟨w,x,E⟩:=bd E
 refine Af O O O H2 O (λh' o=>CW (St.all h') Q V x) λW=>?_
 have X:=W
 refine QF.bld (cs:=[.int .i64 t,.int .i64 w]) Ga O O O (C1 λai y Y=>Aj (vs:=[.int .i64 t,.int .i64 w]) O O O O Ag O y .head O λaj k Z=>LF.nil (kp [4] O) (WF.ret (λaa ww hf hw=>?_)))
 have z:=k.drop .head
 cases E
 have A:=e5.trans (p.trans (m.trans (Y.trans Z)))
 exact Hb hf O hw (GF (Md hf hw k O mh Ag O) HW) O A ⟨O,⟨K,X⟩,z⟩
theorem KK (hs:St S L h) {c:Int}(g:AB c) {a:Value}{c1_:AX}(j:Pt S h A0 a c1_) {b:Value}{c2_:AF}(k:Pt S h AK b c2_) {r:AF}(E:Dw N c1_ c2_ c=some r):
 BP Tryz.prog 114 #[.int .i64 c,a,b] S h (λv S' h'=>v= .agg #[.int .i64 r.Lo,.int .i64 r.Hi]∧AF.ok r∧St S' (L) h'):=by
 refine Ac (l:=[.int .i64 c,a,b]) 13 Tryz.func114 O Tryz.ntmps114 O λB=>?_
 rw[Dw] at E
 refine WF.seq (WF.rl (LF.al EL O hs λb1 h2 d z=>LF.nil (kp [4,0,1,2] O) (WF.seq (EC 8 mo (by kernel_rfl) O d ?_))))
 obtain⟨y5,A,E⟩:=bd E
 refine Af O O O JF O (λh' o=>C5 (St.all h') (iq (n:=0) O) A) λr6=>?_
 obtain⟨r7,r8⟩:=r6
 have k9:=j.mono z
 refine QF.ld Ak d.1 O k9 C3 (λe=>by cases e) O λaf C=>?_
 have D:=k.mono z
 refine QF.ld Ak d.1 O D Ag (λe=>by cases e) O λag F=>QF.mv O O ?_
 obtain⟨G,m,E⟩:=bd E
 refine Af O O O JF O (λh' o=>C5 (St.all h') g m) λH=>?_
 obtain⟨I,J⟩:=H
 obtain⟨K,p,E⟩:=bd E
 refine Af O O O Tx O (λh' o=>J6 (St.all h') (C.mono (o.all d.1)) (F.mono (o.all d.1)) (AK.mk (x:=G) ⟨I,J⟩) p) λM=>?_
 obtain⟨Q,U⟩:=M
 obtain⟨V,q,E⟩:=bd E
 refine Af O O O WT O (λh' o=>Og (St.all h') (AK.mk (x:=y5) ⟨r7,r8⟩) (AK.mk (x:=K) ⟨Q,U⟩) q) λW=>?_
 obtain⟨X,Y⟩:=W
 obtain⟨s,t,E⟩:=bd E
 refine Af O O O Ty O (λh' o=>I7 (St.all h') (AK.mk (x:=V) ⟨X,Y⟩) t) λZ=>?_
 obtain⟨ab,ac⟩:=Z
 refine C1 λah u ad=>Aj (vs:=[.int .i64 s.Lo,.int .i64 s.Hi]) O O O O Ag O u .head O λai i ae=>LF.nil (kp [4] O) (WF.ret (λaa ww hf hw=>?_))
 have w:=i.drop .head
 cases E
 have y:=z.trans (ad.trans ae)
 exact Hb hf O hw (GF (Md hf hw i O mh Ag O) HW) O y ⟨O,⟨ab,ac⟩,w⟩
theorem J7 (hs:St S L h) {c:Value}{d:Ce}(s:Rd S h A7 c d) {i:Int}(u:AB i) {b:Int}(m:AB b) {r:Int×Int}(E:H5 N d i b=some r):
 BP Tryz.prog 117 #[c,.int .i64 i,.int .i64 b] S h (λv S' h'=>v= .tuple #[.int .i64 r.1,.int .i64 r.2]∧AB r.1∧AB r.2∧St S' (L) h'):=by
 refine Ac (l:=[c,.int .i64 i,.int .i64 b]) 51 Tryz.func117 O Tryz.ntmps117 O λB=>?_
 rw[H5] at E
 refine WF.seq (WF.rl (LF.boxp O s (λe=>by cases e) O hs λq1 M h3 y Q K=>LF.q 2 (QF.as_ O O (QF.as_ O O (AE (LF.nil (kp [3,1,2] O) (WF.seq (WF.rc (.inl O) y (QF.mv O O (QF.fa O K Ce.f_Num Ow O λq7 k8=>QF.ldi Ak y.1 O k8 AN O λr9=>QF.fa O K Ce.f_Den IZ O λad U=>?_))))))))))
 refine QF.ldi Ak y.1 O U AN O λV=>?_
 obtain⟨g,G,E⟩:=bd E
 refine GL (v:= .tuple #[.int .i64 g.1,.int .i64 g.2.1,.bool g.2.2]) (Ψ:=AB g.1∧AB g.2.1) O O O O6 O (λh' o=>(HN (St.all h') u r9 V G).mono λ_ _ _ _ p=>⟨p.1,⟨p.2.1,p.2.2.1⟩⟩) λW=>?_
 obtain⟨X,ae⟩:=W
 refine QF.mv O O (QF.ext O O O (QF.ext O O O (QF.ext O O O (QF.as_ O O (QF.as_ O O (QF.as_ O O (Ai (kp [10,9,8,3,2] O) λz j t=>WF.seq (WF.seq (WF.rp (.inl O) (QF.mv O O (QF.not O O (AA (kp [23,9,8,3,2] O) ?_))))))))))))
 refine WF.if_ O (λA=>?_) (λA=>?_)
 ·
  have E:=Av A E
  refine WF.seq (WF.rp (.inl O) (QF.as_ O O (QF.as_ O O (AA (kp [7,6] O) (WF.ret (λaa ww hf hw=>?_))))))
  cases E
  exact Hb hf O hw (GF (IG hf (v:=_) O) (GF (IG hf (v:=_) O) HW)) O (Q.trans t) ⟨O,(iq (n:=0) O),(iq (n:=0) O),j⟩
 ·
  have E:=Aw A E
  refine WF.skip (WF.seq (WF.rp (.inl O) (QF.as_ O O (AA (kp [11,9,8,3,2] O) (WF.seq (WF.seq (WF.rp (.inl O) (QF.mv O O (QF.geq O O O (QF.mv O O (QF.cutv 5 31 (.bool ((decide (0≤b))&&(decide (b<d.Den)))) ?_ ?_)))))))))))
  ·
   cases af:(decide (0≤b))
   ·exact AL O O
   ·
    refine QF.gy O O O (QF.mv O O (QF.gy O O O ?_))
    have Y:=K.mono t
    exact QF.fa O Y Ce.f_Den IZ O λag Z=>QF.gy O O O (QF.ldi Aa j.1 O Z AN O λah=>QF.gy O O O (QF.lss O O O (QF.pick O O O (AH O))))
  refine AA (kp [31,11,9,8,3,2] O) (WF.cut (λa w=>∃(x:Int),IV B M z (51,[]) a w [(9,.int .i64 g.2.1),(8,.int .i64 g.1),(3,q1),(11,.int .i64 x)] (L) λ_ _=>AB x∧Gv N d g x=some r) ?_ ?_)
  ·
   refine WF.if_ O (λC=>?_) (λC=>?_)
   ·
    have E:=Av C E
    refine WF.rp (.inl O) (QF.mv O O (QF.as_ O O (AA (kp [11,9,8,3] O) (WF.nil (λaa ww hf hw=>?_)))))
    exact⟨b,_,_,hf.sub (kp [9,8,3,11] O),hw,j,(BO.refl M z),m,E⟩
   ·
    have E:=Aw C E
    refine WF.skip (WF.nil (λaa ww hf hw=>?_))
    exact⟨0,_,_,hf.sub (kp [9,8,3,11] O),hw,j,(BO.refl M z),(iq (n:=0) O),E⟩
  ·
   rintro aa ww ⟨x,ai,aj,hf,hw,k,D,ak,E⟩
   refine WF.run ?_ hf hw
   clear hf hw ww aa
   rw[Gv] at E
   refine WF.seq (WF.seq (WF.rp (.inl O) (QF.mv O O (QF.mv O O (QF.addw O O O ?_)))))
   have H:=K.mono (t.trans D)
   refine QF.fa O H Ce.f_Den IZ O λam ab=>QF.ldi Aa k.1 O ab AN O λan=>QF.lss O O O (AA (kp [38,9,8,3,11] O) (WF.if_ O (λF=>?_) (λF=>?_)))
   ·
    have E:=Av F E
    refine WF.seq (WF.rp (.inl O) (QF.mv O O (QF.mv O O (QF.mv O O (QF.addw O O O (QF.as_ O O (QF.as_ O O (AA (kp [7,6] O) (WF.ret (λaa ww hf hw=>?_))))))))))
    cases E
    have I:=Q.trans (t.trans D)
    exact Hb hf O hw (GF (IG hf (v:=_) O) (GF (IG hf (v:=_) O) HW)) O I ⟨O,X,(Au _),k⟩
   ·
    have E:=Aw F E
    refine WF.skip (WF.seq (WF.rp (.inr ⟨mo,by kernel_rfl⟩) (QF.mv O O (QF.addw O O O (QF.mv O O (QF.mv O O (QF.addw O O O (QF.fa O H Ce.f_Den IZ O λao ac=>QF.ldi Aa k.1 O ac AN O λap=>QF.subw O O O (QF.as_ O O (QF.as_ O O (AA (kp [7,6] O) ?_)))))))))))
    refine WF.ret (λaa ww hf hw=>?_)
    cases E
    have J:=Q.trans (t.trans D)
    exact Hb hf O hw (GF (IG hf (v:=_) O) (GF (IG hf (v:=_) O) HW)) O J ⟨O,(Au _),(Au _),k⟩
theorem KJ (hs:St S L h) {b:Int}(c:AB b) {a:Value}{c1_:Ce}(j:Pt S h A7 a c1_) {r:AF}(E:Dv N c1_ b=some r):
 BP Tryz.prog 116 #[.int .i64 b,a] S h (λv S' h'=>v= .agg #[.int .i64 r.Lo,.int .i64 r.Hi]∧AF.ok r∧St S' (L) h'):=by
 refine Ac (l:=[.int .i64 b,a]) 26 Tryz.func116 O Tryz.ntmps116 O λB=>?_
 rw[Dv] at E
 refine WF.seq (WF.rl (LF.al EL O hs λb1 h2 k J=>LF.nil (kp [3,0,1] O) (WF.seq (WF.rc (.inl O) k ?_))))
 have K:=j.mono J
 refine QF.ld Ak k.1 O K HV (λe=>by cases e) O λv6 M=>QF.mv O O ?_
 obtain⟨m,z,E⟩:=bd E
 refine GL (v:= .tuple #[.int .i64 m.1,.int .i64 m.2]) (Ψ:=AB m.1∧AB m.2) O O O Tw O (λh' o=>(J7 (St.all h') (M.mono (o.all k.1)) c (iq (n:=0) O) z).mono λ_ _ _ _ p=>⟨p.1,⟨p.2.1,p.2.2.1⟩⟩) λQ=>?_
 obtain⟨A,U⟩:=Q
 refine QF.mv O O (QF.ext O O O (QF.ext O O O (QF.as_ O O (QF.as_ O O (Ai (kp [4,3,0,1] O) λV d s=>WF.seq (WF.rc (.inl O) d ?_))))))
 have t:=K.mono s
 refine QF.ld Ak d.1 O t HV (λe=>by cases e) O λW C=>QF.mv O O (QF.fa O t Ce.f_Den IZ O λX D=>QF.ldi Ak d.1 O D AN O λY=>QF.subw O O O ?_)
 obtain⟨g,u,E⟩:=bd E
 refine GL (v:= .tuple #[.int .i64 g.1,.int .i64 g.2]) (Ψ:=AB g.1∧AB g.2) O O O Tw O (λh' o=>(J7 (St.all h') (C.mono (o.all d.1)) c (Au _) u).mono λ_ _ _ _ p=>⟨p.1,⟨p.2.1,p.2.2.1⟩⟩) λF=>?_
 obtain⟨G,Z⟩:=F
 refine QF.mv O O (QF.ext O O O (QF.ext O O O (QF.as_ O O (QF.as_ O O (Ai (kp [6,4,3] O) λab w H=>WF.seq (WF.rl (LF.q 3 (QF.mv O O (QF.mv O O (QF.bld (cs:=[.int .i64 m.1,.int .i64 g.1]) Ga O O O (AE (Aj (vs:=[.int .i64 m.1,.int .i64 g.1]) O O O O Ag O w .head O λac i I=>?_))))))))))))
 refine LF.nil (kp [3] O) (WF.ret (λaa ww hf hw=>?_))
 have x:=i.drop .head
 cases E
 have y:=J.trans (s.trans (H.trans I))
 exact Hb hf O hw (GF (Md hf hw i O mh Ag O) HW) O y ⟨O,⟨A,G⟩,x⟩
theorem LT {s:Nat}{p0_w:Ao}{C:Value}{D:Value}{u:Value}{F:Value}{G:Value}{H:Value}{I:Value}{J:Value}{g:Value}{j:Value}{k:Value}{d:Value}(hs:St S (Bx s 106 [.string p0_w.b.Name,C,.int .i64 p0_w.b.Cells,D,u,F,G,H,I,J,.int .i64 p0_w.b.Err,.int .i64 p0_w.h.Hour,g,j,k,d]::OS AK 51 g p0_w.h.Vol::OS BE 93 j p0_w.h.Queue::OS Ab 97 k p0_w.h.Links::OS AK 51 d p0_w.peaks::L) h) (fp:p0_w.b.Name.size≤maxLen) (bl:Sl S h AW.str C p0_w.b.Owners) (fq:AB p0_w.b.Cells) (X:Sl S h A7 D p0_w.b.Places) (bm:Sl S h A0 u p0_w.b.Links) (fr:Sl S h FI F p0_w.b.Towns) (fs:Sl S h C9 G p0_w.b.Gauges) (ft:Sl S h FD H p0_w.b.Roads) (fu:Sl S h B9 I p0_w.b.Shelters) (fv:Sl S h AW.int J p0_w.b.Room) (dr:AB p0_w.b.Err) (ds:AB p0_w.h.Hour) {z:Int}(j4:AB z) {M:Value}{Q:(List Ht)}(af:Sl S h Ho M Q) {r:(List AS)}(E:Hk N p0_w z Q=some r):
 BP Tryz.prog 53 #[.pointer (some ⟨s,0,none⟩),.int .i64 z,M] S h (λv S' h'=>St S' (OS BY 181 v r::Bx s 106 [.string p0_w.b.Name,C,.int .i64 p0_w.b.Cells,D,u,F,G,H,I,J,.int .i64 p0_w.b.Err,.int .i64 p0_w.h.Hour,g,j,k,d]::OS AK 51 g p0_w.h.Vol::OS BE 93 j p0_w.h.Queue::OS Ab 97 k p0_w.h.Links::OS AK 51 d p0_w.peaks::L) h'):=by
 refine Ac (l:=[.pointer (some ⟨s,0,none⟩),.int .i64 z,M]) 210 Tryz.func53 O Tryz.ntmps53 O λB=>?_
 rw[Hk] at E
 refine WF.seq (WF.rp (.inl O) (QF.as_ O O (AA (kp [0,1,2] O) (WF.seq (WF.rp (.inl O) (QF.as_ O O (AA (kp [7,0,1,2] O) (WF.seq (WF.seq (WF.rp (.inl O) (QF.mv O O (QF.len O af SU O λb1=>QF.mv O O ?_))))))))))))
 refine AA (kp [19,18,17,7,0,1] O) (WF.blockJ (λa w=>∃(v2:Value) (l3:List AS),IV B S h (210,[]) a w [(0,.pointer (some ⟨s,0,none⟩)),(1,.int .i64 z),(7,v2)] (OS BY 181 v2 l3::Bx s 106 [.string p0_w.b.Name,C,.int .i64 p0_w.b.Cells,D,u,F,G,H,I,J,.int .i64 p0_w.b.Err,.int .i64 p0_w.h.Hour,g,j,k,d]::OS AK 51 g p0_w.h.Vol::OS BE 93 j p0_w.h.Queue::OS Ab 97 k p0_w.h.Links::OS AK 51 d p0_w.peaks::L) λ_ _=>EV N p0_w z l3=some r) ?_ ?_)
 ·
  refine WF.loopF (λn1=>λa w=>∃(v8:Value) (l9:List AS) (az:Int),IV B S h (210,[]) a w [(18,.int .i64 (↑Q.length:Int)),(17,M),(0,.pointer (some ⟨s,0,none⟩)),(1,.int .i64 z),(7,v8),(19,.int .i64 az)] (OS BY 181 v8 l9::Bx s 106 [.string p0_w.b.Name,C,.int .i64 p0_w.b.Cells,D,u,F,G,H,I,J,.int .i64 p0_w.b.Err,.int .i64 p0_w.h.Hour,g,j,k,d]::OS AK 51 g p0_w.h.Vol::OS BE 93 j p0_w.h.Queue::OS Ab 97 k p0_w.h.Links::OS AK 51 d p0_w.peaks::L) λ_ _=>AB az∧CB N p0_w z Q (EV N p0_w z) n1 l9 az=some r) N ?_ ?_ ?_
  ·
   intro aa ww hf hw
   have fw:=hs.nil BY 181
   exact⟨(.slice none 0 0),([]),0,_,_,hf.sub (kp [18,17,0,1,7,19] O),hw,fw,(BO.refl S h),(iq (n:=0) O),E⟩
  ·
   rintro aa ww ⟨_,_,_,_,_,_,_,_,_,_,E⟩
   rw[CB] at E;cases E
  ·
   rintro n1 aa ww ⟨v8,l9,az,j5,j6,hf,hw,bp,bn,m7,E⟩
   refine WF.run ?_ hf hw
   clear hf hw ww aa
   rw[CB] at E
   refine WF.seq (WF.rp (.inl O) (QF.lss O O O (AA (kp [20,18,17,0,1,7,19] O) (WF.seq (WF.if_ O (λdt=>?_) (λdt=>?_))))))
   ·
    have E:=Av dt E
    refine WF.skip (WF.seq (WF.blockJ (λa w=>∃(cw:Value) (cx:List AS),IV B j5 j6 (210,[]) a w [(18,.int .i64 (↑Q.length:Int)),(17,M),(0,.pointer (some ⟨s,0,none⟩)),(1,.int .i64 z),(19,.int .i64 az),(7,cw)] (OS BY 181 cw cx::Bx s 106 [.string p0_w.b.Name,C,.int .i64 p0_w.b.Cells,D,u,F,G,H,I,J,.int .i64 p0_w.b.Err,.int .i64 p0_w.h.Hour,g,j,k,d]::OS AK 51 g p0_w.h.Vol::OS BE 93 j p0_w.h.Queue::OS Ab 97 k p0_w.h.Links::OS AK 51 d p0_w.peaks::L) λ_ _=>EU N az (CB N p0_w z Q (EV N p0_w z) n1) cx=some r) ?_ ?_))
    ·
     refine WF.seq (WF.rl (LF.q 2 ?_))
     have j7:=af.mono' bn
     obtain⟨ac,fx,E⟩:=bd E
     refine QF.ixe O O j7 SU fx O λm8 j8=>QF.ld Aa bp.1 O j8 SF (λe=>by cases e) O λm9 j9=>AE (LF.al VU O bp λcy na fy a0=>?_)
     have ka:=j9.mono a0
     obtain⟨rfl,⟨kb,fz,kc,du⟩⟩:=Ho.ex ka
     refine Aj (vs:=[.int .i64 ac.Place,.int .i64 ac.Owner,.int .i64 ac.Litres,.int .i64 ac.To]) O O O O SF O fy .head O λnb av bo=>LF.nil (kp [9,18,17,0,1,7,19] O) (WF.seq (WF.seq (WF.rc (.inr ⟨mo,by kernel_rfl⟩) av (QF.fao O TH O (AI Ak av O mh O AN O (QF.mv O O (QF.neq O O O (QF.mv O O ?_))))))))
     obtain⟨dv,ag,E⟩:=bd E
     refine QF.cutv 11 38 (.bool dv) ?_ ?_
     ·
      cases f0:(decide (ac.Place≠z))
      ·
       have ag:=Aw f0 ag
       refine QF.gy O O O (QF.fao O TG O (QF.gy O O O (AI Ak av O mh O AN O (QF.gy O O O (QF.mv O O (QF.gy O O O (Dj O O (QF.gy O O O (QF.fao O Fv O (QF.gy O O O (QF.fao O Hf O (QF.gy O O O (AI Ak av O (mt (mt mh)) O Ke O ?_)))))))))))))
       refine QF.gy O O O ?_
       have f1:=bn.trans (a0.trans bo)
       have kd:=bl.mono' f1
       refine QF.len O kd J5 O λke=>QF.gy O O O ?_
       obtain⟨nd,f2,ag⟩:=bd ag
       refine AZ O O O P4 O (λh' o=>Gc (St.all h') fz (IJ ke) f2) (QF.gy O O O (QF.not O O (QF.pick O O O ?_)))
       cases ag
       exact AH O
      ·
       have ag:=Av f0 ag
       cases ag
       exact AL O O
     refine QF.mv O O (QF.cutv 4 43 (.bool (dv||(decide (ac.Litres≤0)))) ?_ ?_)
     ·
      cases ne:dv
      ·exact QF.gy O O O (QF.fao O Pq O (QF.gy O O O (AI Ak av O mh O AN O (QF.gy O O O (QF.leq O O O (QF.pick O O O (AH O)))))))
      ·exact AL O O
     refine Ai (kp [43,9,18,17,0,1,7,19] O) λnf Y bq=>WF.if_ O (λdw=>?_) (λdw=>?_)
     ·
      have E:=Av dw E
      refine WF.exit O (λaa ww hf hw=>?_)
      have f3:=Y.sel [1,1,1,1,1,1] 1 O
      have f4:=a0.trans (bo.trans bq)
      exact⟨v8,l9,_,_,hf.sub (kp [18,17,0,1,19,7] O),hw,f3,f4,E⟩
     ·
      have E:=Aw dw E
      refine WF.skip (WF.seq (WF.seq (WF.rc (.inr ⟨mo,by kernel_rfl⟩) Y (QF.fao O MK O (AI Ak Y O mh O AN O (QF.neq O O O (QF.mv O O ?_)))))))
      obtain⟨kf,Z,E⟩:=bd E
      refine QF.cutv 33 80 (.bool kf) ?_ ?_
      ·
       cases f5:(decide (ac.To≠(-1)))
       ·
        have Z:=Aw f5 Z
        cases Z
        exact AL O O
       ·
        have Z:=Av f5 Z
        refine QF.gy O O O (QF.fao O MK O (QF.gy O O O (AI Ak Y O mh O AN O (QF.gy O O O (QF.mv O O (QF.gy O O O (Dj O O (QF.gy O O O (QF.fao O Fv O (QF.gy O O O (QF.fao O Bs O (QF.gy O O O (AI Ak Y O (mt (mt mh)) O EY O ?_)))))))))))))
        refine QF.gy O O O ?_
        have f6:=bn.trans (a0.trans (bo.trans bq))
        have kg:=X.mono' f6
        refine QF.len O kg Dk O λkh=>QF.gy O O O ?_
        obtain⟨ki,f7,Z⟩:=bd Z
        refine AZ O O O P4 O (λh' o=>Gc (St.all h') du (IJ kh) f7) (QF.gy O O O (QF.not O O (QF.gy O O O (QF.mv O O ?_))))
        obtain⟨kj,ab,Z⟩:=bd Z
        refine QF.cutv 21 79 (.bool kj) ?_ ?_
        ·
         cases f8:(!ki)
         ·
          have ab:=Aw f8 ab
          refine QF.gy O O O (QF.mv O O (QF.gy O O O (Dj O O (QF.gy O O O (QF.fao O Fv O (QF.gy O O O (QF.fao O Bs O (QF.gy O O O (AI Ak Y O (mt (mt mh)) O EY O (QF.gy O O O (QF.fao O MK O (QF.gy O O O (AI Ak Y O mh O AN O ?_)))))))))))))
          refine QF.gy O O O ?_
          have cz:=bn.trans (a0.trans (bo.trans bq))
          have kk:=X.mono' cz
          obtain⟨ng,f9,ab⟩:=bd ab
          refine QF.ixe O O kk Dk f9 O λnh kl=>QF.gy O O O (QF.fa O kl GN Jn O λni km=>QF.gy O O O (QF.ldi Ak Y.1 O km AN O λnj=>QF.gy O O O (QF.mv O O (QF.gy O O O (Dj O O (QF.gy O O O (QF.fao O Fv O (QF.gy O O O (QF.fao O Bs O (QF.gy O O O ?_))))))))))
          refine AI Ak Y O (mt (mt mh)) O EY O (QF.gy O O O (QF.mv O O (QF.gy O O O ?_)))
          have kn:=X.mono' cz
          obtain⟨nk,ga,ab⟩:=bd ab
          refine QF.ixe O O kn Dk ga O λnl ko=>QF.gy O O O (QF.fa O ko GN Jn O λnm kq=>QF.gy O O O (QF.ldi Ak Y.1 O kq AN O λnn=>QF.gy O O O (QF.neq O O O (QF.gy O O O (QF.pick O O O ?_)))))
          cases ab
          exact AH O
         ·
          have ab:=Av f8 ab
          cases ab
          exact AL O O
        refine QF.pick O O O ?_
        cases Z
        exact AH O
      refine Ai (kp [80,9,18,17,0,1,7,19] O) λkr br gb=>WF.if_ O (λdx=>?_) (λdx=>?_)
      ·
       have E:=Av dx E
       refine WF.exit O (λaa ww hf hw=>?_)
       have gc:=br.sel [1,1,1,1,1,1] 1 O
       have ge:=a0.trans (bo.trans (bq.trans gb))
       exact⟨v8,l9,_,_,hf.sub (kp [18,17,0,1,19,7] O),hw,gc,ge,E⟩
      ·
       have E:=Aw dx E
       refine WF.skip (WF.rl (LF.q 5 (QF.mv O O (QF.fao O MK O (AI Aa br O mh O AN O (QF.mkf O O O (QF.bld (cs:=[.int .i64 ac.To,.int .i64 0,.int .i64 0,.func (.func 108) #[] #[.pointer (some ⟨cy,0,none⟩)]]) NS O O O (AE ?_))))))))
       obtain⟨ks,gf,kt,ku⟩:=br.pubb (r:=Ho) (x:=ac) .head ⟨O,⟨kb,fz,kc,du⟩⟩
       have gg:Rd ks kr (AW.fn Tryz.prog (λx:Int=>([.int .i64 x]:List Value)) (λx:Int=>AB x) (λy:AF=> .agg #[.int .i64 y.Lo,.int .i64 y.Hi]) (λy:AF=>AF.ok y)) (.func (.func 108) #[] #[(.pointer (some ⟨cy,0,none⟩))]) (λx=>Dz N ac x):=Jx 108 #[(.pointer (some ⟨cy,0,none⟩))] WY λS' h' s' e' L hs x y h1 h2=>(KN hs h1 (ku.mono'' s' e') h2).mono λ_ _ _ _ p=>p
       refine Gn (cs:=[.int .i64 ac.To,.int .i64 0,.int .i64 0,(.func (.func 108) #[] #[(.pointer (some ⟨cy,0,none⟩))])]) JP O O O O O O O gf λno np gh gi=>?_
       obtain⟨gj,E⟩:=O4 E
       have kv:=gg.mono gi
       refine LF.app2 (r:=BY) (l:=l9) (xs:=([(⟨ac.To,0,0,(λx=>Dz N ac x)⟩:AS)]:List AS)) O O JP O mh ⟨_,_,O,⟨_,O,du,(iq (n:=0) O),(iq (n:=0) O),kv⟩,O⟩ O O gj O gh (λ_=>(.tail .head)) λkw nq gk kx=>?_
       have gl:=gk.drop .head
       refine LF.q 1 (QF.as_ O O (AE (LF.nil (kp [7,18,17,0,1,19] O) (WF.nil (λaa ww hf hw=>?_)))))
       have gm:=a0.trans (bo.trans (bq.trans (gb.trans (kt.trans (gi.trans kx)))))
       exact⟨kw,(l9++([(⟨ac.To,0,0,(λx=>Dz N ac x)⟩:AS)]:List AS)),_,_,hf.sub (kp [18,17,0,1,19,7] O),hw,gl,gm,E⟩
    ·
     rintro aa ww ⟨cw,cx,ky,kz,hf,hw,dy,gp,E⟩
     refine WF.run ?_ hf hw
     clear hf hw ww aa
     rw[EU] at E
     refine WF.rp (.inl O) (QF.addw O O O (QF.mv O O (AA (kp [19,18,17,0,1,7] O) (WF.nil (λaa ww hf hw=>?_)))))
     exact⟨cw,cx,(Ar (az+1)),_,_,hf.sub (kp [18,17,0,1,7,19] O),hw,dy,(bn.trans gp),(Au _),E⟩
   ·
    have E:=Aw dt E
    refine WF.exit O (λaa ww hf hw=>?_)
    exact⟨v8,l9,_,_,hf.sub (kp [0,1,7] O),hw,bp,bn,E⟩
 ·
  rintro aa ww ⟨v2,l3,bt,bu,hf,hw,bv,bw,E⟩
  refine WF.run ?_ hf hw
  clear hf hw ww aa
  rw[EV] at E
  refine WF.seq (WF.seq (WF.rp (.inl O) (QF.mv O O (Dj O O (QF.fao O Fv O (QF.fao O EE O (AI Aa bv O (mt mh) O G7 O ?_)))))))
  have c0:=bm.mono' bw
  refine QF.len O c0 FT O λk0=>QF.mv O O (AA (kp [95,94,93,0,1,7] O) (WF.blockJ (λa w=>∃(a9:Value) (ao:List AS),IV B bt bu (210,[]) a w [(0,.pointer (some ⟨s,0,none⟩)),(1,.int .i64 z),(7,a9)] (OS BY 181 a9 ao::Bx s 106 [.string p0_w.b.Name,C,.int .i64 p0_w.b.Cells,D,u,F,G,H,I,J,.int .i64 p0_w.b.Err,.int .i64 p0_w.h.Hour,g,j,k,d]::OS AK 51 g p0_w.h.Vol::OS BE 93 j p0_w.h.Queue::OS Ab 97 k p0_w.h.Links::OS AK 51 d p0_w.peaks::L) λ_ _=>DZ N p0_w z ao=some r) ?_ ?_))
  ·
   refine WF.loopF (λn4=>λa w=>∃(ae:Value) (V:List AS) (W:Int),IV B bt bu (210,[]) a w [(94,.int .i64 (↑p0_w.b.Links.length:Int)),(93,u),(0,.pointer (some ⟨s,0,none⟩)),(1,.int .i64 z),(7,ae),(95,.int .i64 W)] (OS BY 181 ae V::Bx s 106 [.string p0_w.b.Name,C,.int .i64 p0_w.b.Cells,D,u,F,G,H,I,J,.int .i64 p0_w.b.Err,.int .i64 p0_w.h.Hour,g,j,k,d]::OS AK 51 g p0_w.h.Vol::OS BE 93 j p0_w.h.Queue::OS Ab 97 k p0_w.h.Links::OS AK 51 d p0_w.peaks::L) λ_ _=>AB W∧BQ N p0_w z (DZ N p0_w z) n4 V W=some r) N ?_ ?_ ?_
   ·
    intro aa ww hf hw
    exact⟨v2,l3,0,_,_,hf.sub (kp [94,93,0,1,7,95] O),hw,bv,(BO.refl bt bu),(iq (n:=0) O),E⟩
   ·
    rintro aa ww ⟨_,_,_,_,_,_,_,_,_,_,E⟩
    rw[BQ] at E;cases E
   ·
    rintro n4 aa ww ⟨ae,V,W,aw,gq,hf,hw,a1,bx,k1,E⟩
    refine WF.run ?_ hf hw
    clear hf hw ww aa
    rw[BQ] at E
    refine WF.seq (WF.rp (.inl O) (QF.lss O O O (AA (kp [96,94,93,0,1,7,95] O) (WF.seq (WF.if_ O (λbz=>?_) (λbz=>?_))))))
    ·
     have E:=Av bz E
     refine WF.skip (WF.seq (WF.blockJ (λa w=>∃(ba:Value) (bb:List AS),IV B aw gq (210,[]) a w [(94,.int .i64 (↑p0_w.b.Links.length:Int)),(93,u),(0,.pointer (some ⟨s,0,none⟩)),(1,.int .i64 z),(95,.int .i64 W),(7,ba)] (OS BY 181 ba bb::Bx s 106 [.string p0_w.b.Name,C,.int .i64 p0_w.b.Cells,D,u,F,G,H,I,J,.int .i64 p0_w.b.Err,.int .i64 p0_w.h.Hour,g,j,k,d]::OS AK 51 g p0_w.h.Vol::OS BE 93 j p0_w.h.Queue::OS Ab 97 k p0_w.h.Links::OS AK 51 d p0_w.peaks::L) λ_ _=>CC N W (BQ N p0_w z (DZ N p0_w z) n4) bb=some r) ?_ ?_))
     ·
      refine WF.seq (WF.rl (LF.q 3 (QF.mv O O ?_)))
      have gr:=c0.mono' bx
      obtain⟨c,dz,E⟩:=bd E
      refine QF.ixe O O gr FT dz O λk2 gs=>QF.ld Aa a1.1 O gs C3 (λe=>by cases e) O λk3 gu=>AE (LF.al KX O a1 λK k4 d0 ax=>LF.q 1 (QF.as_ O O (AE ?_)))
      have gv:=gu.mono ax
      obtain⟨b0,b2,b3,rfl,b4,b5,ay,ap,bc,be,bf,b6,b7,b8,b9,ca,cb,cc,cd,ce,cf,aq⟩:=A0.ex gv
      refine LF.st (vs:=[.string c.Name,.int .i64 c.Kind,.int .i64 c.From,.int .i64 c.To,b0,b2,b3,.int .i64 c.Positions,.int .i64 c.Speed,.int .i64 c.Leak,.int .i64 c.Crest,.int .i64 c.Num,.int .i64 c.Den,.int .i64 c.Prime,.int .i64 c.Break,.int .i64 c.BackNum,.int .i64 c.BackDen,.int .i64 c.Delay]) (cs':=[.string c.Name,.int .i64 c.Kind,.int .i64 c.From,.int .i64 c.To,b0,b2,b3,.int .i64 c.Positions,.int .i64 c.Speed,.int .i64 c.Leak,.int .i64 c.Crest,.int .i64 c.Num,.int .i64 c.Den,.int .i64 c.Prime,.int .i64 c.Break,.int .i64 c.BackNum,.int .i64 c.BackDen,.int .i64 c.Delay]) O O O (AC O (AC O (AC O (AC O (AC bc.one (AC be.one (AC bf.one (AC O (AC O (AC O (AC O (AC O (AC O (AC O (AC O (AC O (AC O (AC O C6)))))))))))))))))) C3 O d0 .head O O λc1 t am=>LF.nil (kp [10,11,94,93,0,1,7,95] O) (WF.block (WF.seq (WF.rp (.inl O) (QF.fao O Gd O (AI Aa t O mh O AN O (QF.mv O O (QF.eql O O O (QF.mv O O (QF.cutv 4 109 (.bool ((decide (c.From=z))&&(decide (c.Kind≠4)))) ?_ ?_)))))))))
      ·
       cases k5:(decide (c.From=z))
       ·exact AL O O
       ·exact QF.gy O O O (QF.fao O Ck O (QF.gy O O O (AI Aa t O mh O AN O (QF.gy O O O (QF.neq O O O (QF.pick O O O (AH O)))))))
      refine QF.as_ O O (AA (kp [100,10,11,94,93,0,1,7,95] O) (WF.if_ O (λcg=>?_) (λcg=>?_)))
      ·
       have E:=Av cg E
       refine WF.seq (WF.rl (LF.q 9 (QF.mv O O (Dj O O (QF.fao O Do O (QF.fao O FV O (AI Aa t O (mt (mt mh)) O H9 O (QF.mv O O ?_))))))))
       obtain⟨k6,d1,E⟩:=bd E
       refine QF.ixoe t (mt (mt (mt (mt (mt mh))))) O O Il d1 O λk7 d2=>?_
       obtain⟨U,d3,E⟩:=bd E
       have gw:=t.epAt (mt (mt (mt (mt (mt mh))))) d3 D8.id d2
       refine QF.ld Aa (λ_ x=>x) O gw GT (λe=>by cases e) O λk8 gx=>QF.bld (cs:=[.int .i64 0,.int .i64 0]) Ga O O O (AE (LF.al PN O t λar k9 d4 ch=>LF.al EL O d4 λau la d5 ci=>?_))
       have gz:=gx.mono (ch.trans ci)
       obtain⟨rfl,⟨g0,g1,g2,g3,g4⟩⟩:=Ab.ex gz
       refine Aj (vs:=[.int .i64 U.Pos.Lo,.int .i64 U.Pos.Hi,.int .i64 U.Target,.int .i64 U.Open.Lo,.int .i64 U.Open.Hi]) O O O O GT O d5 (.tail .head) O λlb d6 c2=>Aj (vs:=[.int .i64 0,.int .i64 0]) O O O O Ag O d6 .head O λc3 ad c4=>LF.nil (kp [13,12,11,94,93,0,1,7,95] O) (WF.seq (WF.seq (WF.rp (.inl O) (QF.fao O E8 O (AI Aa ad O (mt (mt mh)) O AN O (QF.neq O O O (AA (kp [121,13,12,11,94,93,0,1,7,95] O) (WF.cut (λa w=>∃(ah:Int) (ai:Int),IV B aw c3 (210,[]) a w [(13,.pointer (some ⟨au,0,none⟩)),(12,.pointer (some ⟨ar,0,none⟩)),(11,.pointer (some ⟨K,0,none⟩)),(94,.int .i64 (↑p0_w.b.Links.length:Int)),(93,u),(0,.pointer (some ⟨s,0,none⟩)),(1,.int .i64 z),(7,ae),(95,.int .i64 W)] (Bx au 51 [.int .i64 ah,.int .i64 ai]::Bx ar 97 [.int .i64 U.Pos.Lo,.int .i64 U.Pos.Hi,.int .i64 U.Target,.int .i64 U.Open.Lo,.int .i64 U.Open.Hi]::Bx K 102 [.string c.Name,.int .i64 c.Kind,.int .i64 c.From,.int .i64 c.To,b0,b2,b3,.int .i64 c.Positions,.int .i64 c.Speed,.int .i64 c.Leak,.int .i64 c.Crest,.int .i64 c.Num,.int .i64 c.Den,.int .i64 c.Prime,.int .i64 c.Break,.int .i64 c.BackNum,.int .i64 c.BackDen,.int .i64 c.Delay]::OS BY 181 ae V::Bx s 106 [.string p0_w.b.Name,C,.int .i64 p0_w.b.Cells,D,u,F,G,H,I,J,.int .i64 p0_w.b.Err,.int .i64 p0_w.h.Hour,g,j,k,d]::OS AK 51 g p0_w.h.Vol::OS BE 93 j p0_w.h.Queue::OS Ab 97 k p0_w.h.Links::OS AK 51 d p0_w.peaks::L) λ_ _=>AB ah∧AB ai∧Fc N V c U (CC N W (BQ N p0_w z (DZ N p0_w z) n4)) ah ai=some r) ?_ ?_))))))))
       ·
        refine WF.if_ O (λcj=>?_) (λcj=>?_)
        ·
         have E:=Av cj E
         refine N0 8 mo (by kernel_rfl) O (QF.mv O O (Dj O O (QF.fao O Fu O (AI Aa ad O (mt (mt (mt (mt mh)))) O Fq O (QF.fao O E8 O (AI Aa ad O (mt (mt mh)) O AN O ?_))))))
         obtain⟨lc,d7,E⟩:=bd E
         refine QF.ixoe ad (mt (mt (mt (mt (mt (mt (mt (mt mh)))))))) O O EM d7 O λle d8=>?_
         obtain⟨bg,d9,E⟩:=bd E
         have g5:=ad.epAt (mt (mt (mt (mt (mt (mt (mt (mt mh)))))))) d9 D8.id d8
         refine QF.ld Aa (λ_ x=>x) O g5 Ag (λe=>by cases e) O λlf g6=>AE ?_
         obtain⟨rfl,⟨g7,g8⟩⟩:=AK.ex g6
         refine Aj (vs:=[.int .i64 bg.Lo,.int .i64 bg.Hi]) O O O O Ag O ad .head O λlg ea g9=>LF.nil (kp [13,12,11,94,93,0,1,7,95] O) (WF.nil (λaa ww hf hw=>?_))
         exact⟨bg.Lo,bg.Hi,_,_,hf.sub (kp [13,12,11,94,93,0,1,7,95] O),hw,ea,g9,g7,g8,E⟩
        ·
         have E:=Aw cj E
         refine WF.skip (WF.nil (λaa ww hf hw=>?_))
         exact⟨0,0,_,_,hf.sub (kp [13,12,11,94,93,0,1,7,95] O),hw,ad,(BO.refl aw c3),(iq (n:=0) O),(iq (n:=0) O),E⟩
       ·
        rintro aa ww ⟨ah,ai,lh,ha,hf,hw,a2,c5,hc,hd,E⟩
        refine WF.run ?_ hf hw
        clear hf hw ww aa
        rw[Fc] at E
        refine WF.rl (LF.q 7 (QF.mv O O (QF.fao O E8 O (AI Aa a2 O (mt (mt mh)) O AN O (QF.fao O LH O (AI Aa a2 O (mt (mt mh)) O AN O (QF.mkf O O O (QF.bld (cs:=[.int .i64 c.To,.int .i64 c.Delay,.int .i64 2,.func (.func 109) #[] #[.pointer (some ⟨K,0,none⟩),.pointer (some ⟨ar,0,none⟩),.pointer (some ⟨au,0,none⟩)]]) NS O O O (AE ?_)))))))))
        have a3:=am.trans (ch.trans (ci.trans (c2.trans (c4.trans c5))))
        have he:=bc.mono' a3
        have hg:=be.mono' a3
        have hi:=bf.mono' a3
        obtain⟨li,eb,hj,hk⟩:=a2.pubb (r:=A0) (x:=c) (.tail (.tail .head)) ⟨_,_,_,O,b4,b5,ay,ap,he,hg,hi,b6,b7,b8,b9,ca,cb,cc,cd,ce,cf,aq⟩
        obtain⟨lj,ec,c6,hl⟩:=eb.pubb (r:=Ab) (x:=U) (.tail .head) ⟨O,⟨g0,g1,g2,g3,g4⟩⟩
        obtain⟨hm,ed,ck,hn⟩:=ec.pubb (r:=AK) (x:=(⟨ah,ai⟩:AF)) .head ⟨O,⟨hc,hd⟩⟩
        have ho:=hk.mono (c6.trans ck)
        have hp:=hl.mono ck
        have ee:Rd hm ha (AW.fn Tryz.prog (λx:Int=>([.int .i64 x]:List Value)) (λx:Int=>AB x) (λy:AF=> .agg #[.int .i64 y.Lo,.int .i64 y.Hi]) (λy:AF=>AF.ok y)) (.func (.func 109) #[] #[(.pointer (some ⟨K,0,none⟩)),(.pointer (some ⟨ar,0,none⟩)),(.pointer (some ⟨au,0,none⟩))]) (λx=>Dy N c U (⟨ah,ai⟩:AF) x):=Jx 109 #[(.pointer (some ⟨K,0,none⟩)),(.pointer (some ⟨ar,0,none⟩)),(.pointer (some ⟨au,0,none⟩))] WX λS' h' s' e' L hs x y h1 h2=>(KM hs h1 (ho.mono'' s' e') (hp.mono'' s' e') (hn.mono'' s' e') h2).mono λ_ _ _ _ p=>p
        refine Gn (cs:=[.int .i64 c.To,.int .i64 c.Delay,.int .i64 2,(.func (.func 109) #[] #[(.pointer (some ⟨K,0,none⟩)),(.pointer (some ⟨ar,0,none⟩)),(.pointer (some ⟨au,0,none⟩))])]) JP O O O O O O O ed λll lm ef c7=>?_
        obtain⟨eg,E⟩:=O4 E
        have hq:=ee.mono c7
        refine LF.app2 (r:=BY) (l:=V) (xs:=([(⟨c.To,c.Delay,2,(λx=>Dy N c U (⟨ah,ai⟩:AF) x)⟩:AS)]:List AS)) O O JP O mh ⟨_,_,O,⟨_,O,ap,aq,(iq (n:=2) O),hq⟩,O⟩ O O eg O ef (λ_=>(.tail .head)) λht lo eh hu=>?_
        have ei:=eh.drop .head
        refine LF.q 1 (QF.as_ O O (AE (LF.nil (kp [7,94,93,0,1,95] O) (Al (WF.nil (λaa ww hf hw=>?_))))))
        have ej:=ax.trans (am.trans (ch.trans (ci.trans (c2.trans (c4.trans (c5.trans (hj.trans (c6.trans (ck.trans (c7.trans hu))))))))))
        exact⟨ht,(V++([(⟨c.To,c.Delay,2,(λx=>Dy N c U (⟨ah,ai⟩:AF) x)⟩:AS)]:List AS)),_,_,hf.sub (kp [94,93,0,1,95,7] O),hw,ei,ej,E⟩
      ·
       have E:=Aw cg E
       refine WF.seq (WF.rp (.inl O) (QF.fao O Gd O (AI Aa t O mh O AN O (QF.mv O O (QF.eql O O O (QF.as_ O O (AA (kp [139,11,94,93,0,1,7,95] O) (WF.if_ O (λcl=>?_) (λcl=>?_)))))))))
       ·
        have E:=Av cl E
        refine WF.seq ?_
        obtain⟨lp,ek,E⟩:=bd E
        obtain⟨aj,el,E⟩:=bd E
        refine Iy (m:=[(11,.pointer (some ⟨K,0,none⟩)),(94,.int .i64 (↑p0_w.b.Links.length:Int)),(93,u),(0,.pointer (some ⟨s,0,none⟩)),(1,.int .i64 z),(7,ae),(95,.int .i64 W)]) 9 (λi v hh=>match i with|0=>v= .pointer (some ⟨s,0,none⟩)|1=>v= .pointer (some ⟨s,0,none⟩)|2=>v= .pointer (some ⟨s,15,none⟩)|3=>v=d|4=>v= .pointer (some ⟨K,3,none⟩)|5=>v= .int .i64 c.To∧AB c.To|6=>EP d (c.To.toNat*(AK).sz+0) v|7=>Rd aw hh AK v aj|8=>PM c1 51 [.int .i64 0,.int .i64 0] v hh|_=>False) [[],[(0,144)],[(1,145)],[(2,146)],[],[(4,148)],[(3,147),(5,149)],[(6,150)],[]] [(7,151),(8,14)] mo (by kernel_rfl) [11,94,93,0,1,7,95] O (by kernel_rfl) (by kernel_rfl) (by kernel_rfl) (kp [11,94,93,0,1,7,95] O) (λi v h1 h2 o1 o2 hr=>?_) ?_ ?_
        ·match i,hr with
          |0,hr=>exact hr
          |1,hr=>exact hr
          |2,hr=>exact hr
          |3,hr=>exact hr
          |4,hr=>exact hr
          |5,hr=>exact hr
          |6,hr=>exact hr
          |7,hr=>exact Rd.mono hr (o2.ext λb hb=>Nat.lt_of_lt_of_le (t.1 b hb) o1.siz)
          |8,hr=>exact hr.mono o2
          |_+9,hr=>exact hr.elim
        ·
         refine AQ.cons O ?_ ?_
         ·
          intro mq hh o
          have hsN:=o.st t
          exact LF.q 1 (QF.mv O O (AE (AD (Ap.refl _) O)))
         refine AQ.cons O ?_ ?_
         ·
          intro mq hh o
          intro lq hv
          have hsN:=o.st t
          cases hv
          exact LF.q 1 (Dj O O (AE (AD (Ap.refl _) O)))
         refine AQ.cons O ?_ ?_
         ·
          intro mq hh o
          intro lr hx
          have hsN:=o.st t
          cases hx
          exact LF.q 1 (QF.fao O Fu O (AE (AD (Ap.refl _) O)))
         refine AQ.cons O ?_ ?_
         ·
          intro mq hh o
          intro ls hy
          have hsN:=o.st t
          cases hy
          exact LF.q 1 (AI Aa hsN O (mt (mt mh)) O Fq O (AE (AD (Ap.refl _) O)))
         refine AQ.cons O ?_ ?_
         ·
          intro mq hh o
          have hsN:=o.st t
          exact LF.q 1 (QF.fao O E8 O (AE (AD (Ap.refl _) O)))
         refine AQ.cons O ?_ ?_
         ·
          intro mq hh o
          intro lt hz
          have hsN:=o.st t
          cases hz
          exact LF.q 1 (AI Aa hsN O mh O AN O (AE (AD (Ap.refl _) ⟨O,ap⟩)))
         refine AQ.cons O ?_ ?_
         ·
          intro mq hh o
          intro lu h0 lv h3
          have hsN:=o.st t
          cases h0
          obtain⟨rfl,lw⟩:=h3
          exact LF.q 1 (QF.ixoe hsN (mt (mt (mt (mt (mt (mt mh)))))) O O EM ek O λlx em=>AE (AD (Ap.refl _) em))
         refine AQ.cons O ?_ ?_
         ·
          intro mq hh o
          intro ly h4
          have hsN:=o.st t
          refine LF.q 1 ?_
          have h5:=hsN.epAt (mt (mt (mt (mt (mt (mt mh)))))) el D8.id h4
          exact QF.ld Aa (λ_ x=>x) O h5 Ag (λe=>by cases e) O λlz h6=>AE (AD (Ap.refl _) h6)
         refine AQ.cons O ?_ ?_
         ·
          intro mq hh o
          exact PH o EL O λ_ h' o' r'=>AD o' r'
         exact trivial
        intro l0 cm h7 cn l1 h8
        obtain⟨bh,rfl,en⟩:=h8.st t cm
        have cn:Rd _ _ AK h7 aj:=cn
        obtain⟨rfl,⟨h9,ia⟩⟩:=AK.ex cn
        refine Aj (vs:=[.int .i64 aj.Lo,.int .i64 aj.Hi]) O O O O Ag O en .head O λib a4 c8=>LF.nil (kp [14,11,94,93,0,1,7,95] O) (WF.rl (LF.q 7 (QF.mv O O (QF.fao O E8 O (AI Aa a4 O (mt mh) O AN O (QF.fao O LH O (AI Aa a4 O (mt mh) O AN O (QF.mkf O O O (QF.bld (cs:=[.int .i64 c.To,.int .i64 c.Delay,.int .i64 2,.func (.func 111) #[] #[.pointer (some ⟨K,0,none⟩),.pointer (some ⟨bh,0,none⟩)]]) NS O O O (AE ?_))))))))))
        have a5:=am.trans ((cm.ext t.1).trans c8)
        have ic:=bc.mono' a5
        have ie:=be.mono' a5
        have ig:=bf.mono' a5
        obtain⟨l2,eo,ih,ii⟩:=a4.pubb (r:=A0) (x:=c) (.tail .head) ⟨_,_,_,O,b4,b5,ay,ap,ic,ie,ig,b6,b7,b8,b9,ca,cb,cc,cd,ce,cf,aq⟩
        obtain⟨ij,ep,c9,ik⟩:=eo.pubb (r:=AK) (x:=aj) .head ⟨O,⟨h9,ia⟩⟩
        have il:=ii.mono c9
        have eq:Rd ij ib (AW.fn Tryz.prog (λx:Int=>([.int .i64 x]:List Value)) (λx:Int=>AB x) (λy:AF=> .agg #[.int .i64 y.Lo,.int .i64 y.Hi]) (λy:AF=>AF.ok y)) (.func (.func 111) #[] #[(.pointer (some ⟨K,0,none⟩)),(.pointer (some ⟨bh,0,none⟩))]) (λx=>Dx N c aj x):=Jx 111 #[(.pointer (some ⟨K,0,none⟩)),(.pointer (some ⟨bh,0,none⟩))] WV λS' h' s' e' L hs x y h1 h2=>(KL hs h1 (il.mono'' s' e') (ik.mono'' s' e') h2).mono λ_ _ _ _ p=>p
        refine Gn (cs:=[.int .i64 c.To,.int .i64 c.Delay,.int .i64 2,(.func (.func 111) #[] #[(.pointer (some ⟨K,0,none⟩)),(.pointer (some ⟨bh,0,none⟩))])]) JP O O O O O O O ep λl4 l5 er da=>?_
        obtain⟨es,E⟩:=O4 E
        have im:=eq.mono da
        refine LF.app2 (r:=BY) (l:=V) (xs:=([(⟨c.To,c.Delay,2,(λx=>Dx N c aj x)⟩:AS)]:List AS)) O O JP O mh ⟨_,_,O,⟨_,O,ap,aq,(iq (n:=2) O),im⟩,O⟩ O O es O er (λ_=>(.tail .head)) λio l6 et ip=>?_
        have eu:=et.drop .head
        refine LF.q 1 (QF.as_ O O (AE (LF.nil (kp [7,94,93,0,1,95] O) (Al (WF.nil (λaa ww hf hw=>?_))))))
        have ev:=ax.trans (am.trans ((cm.ext t.1).trans (c8.trans (ih.trans (c9.trans (da.trans ip))))))
        exact⟨io,(V++([(⟨c.To,c.Delay,2,(λx=>Dx N c aj x)⟩:AS)]:List AS)),_,_,hf.sub (kp [94,93,0,1,95,7] O),hw,eu,ev,E⟩
       ·
        have E:=Aw cl E
        refine WF.seq (WF.rp (.inl O) (QF.fao O E8 O (AI Aa t O mh O AN O (QF.mv O O (QF.eql O O O (QF.mv O O (QF.cutv 4 170 (.bool ((decide (c.To=z))&&(decide (c.Kind=4)))) ?_ ?_)))))))
        ·
         cases l7:(decide (c.To=z))
         ·exact AL O O
         ·exact QF.gy O O O (QF.fao O Ck O (QF.gy O O O (AI Aa t O mh O AN O (QF.gy O O O (QF.eql O O O (QF.pick O O O (AH O)))))))
        refine QF.as_ O O (AA (kp [161,11,94,93,0,1,7,95] O) (WF.if_ O (λco=>?_) (λco=>?_)))
        ·
         have E:=Av co E
         refine WF.seq ?_
         obtain⟨l8,ew,E⟩:=bd E
         obtain⟨ak,ey,E⟩:=bd E
         refine Iy (m:=[(11,.pointer (some ⟨K,0,none⟩)),(94,.int .i64 (↑p0_w.b.Links.length:Int)),(93,u),(0,.pointer (some ⟨s,0,none⟩)),(1,.int .i64 z),(7,ae),(95,.int .i64 W)]) 9 (λi v hh=>match i with|0=>v= .pointer (some ⟨s,0,none⟩)|1=>v= .pointer (some ⟨s,0,none⟩)|2=>v= .pointer (some ⟨s,15,none⟩)|3=>v=d|4=>v= .pointer (some ⟨K,2,none⟩)|5=>v= .int .i64 c.From∧AB c.From|6=>EP d (c.From.toNat*(AK).sz+0) v|7=>Rd aw hh AK v ak|8=>PM c1 51 [.int .i64 0,.int .i64 0] v hh|_=>False) [[],[(0,171)],[(1,172)],[(2,173)],[],[(4,175)],[(3,174),(5,176)],[(6,177)],[]] [(7,178),(8,15)] mo (by kernel_rfl) [11,94,93,0,1,7,95] O (by kernel_rfl) (by kernel_rfl) (by kernel_rfl) (kp [11,94,93,0,1,7,95] O) (λi v h1 h2 o1 o2 hr=>?_) ?_ ?_
         ·match i,hr with
           |0,hr=>exact hr
           |1,hr=>exact hr
           |2,hr=>exact hr
           |3,hr=>exact hr
           |4,hr=>exact hr
           |5,hr=>exact hr
           |6,hr=>exact hr
           |7,hr=>exact Rd.mono hr (o2.ext λb hb=>Nat.lt_of_lt_of_le (t.1 b hb) o1.siz)
           |8,hr=>exact hr.mono o2
           |_+9,hr=>exact hr.elim
         ·
          refine AQ.cons O ?_ ?_
          ·
           intro mq hh o
           have hsN:=o.st t
           exact LF.q 1 (QF.mv O O (AE (AD (Ap.refl _) O)))
          refine AQ.cons O ?_ ?_
          ·
           intro mq hh o
           intro ma ir
           have hsN:=o.st t
           cases ir
           exact LF.q 1 (Dj O O (AE (AD (Ap.refl _) O)))
          refine AQ.cons O ?_ ?_
          ·
           intro mq hh o
           intro mb it
           have hsN:=o.st t
           cases it
           exact LF.q 1 (QF.fao O Fu O (AE (AD (Ap.refl _) O)))
          refine AQ.cons O ?_ ?_
          ·
           intro mq hh o
           intro mc iu
           have hsN:=o.st t
           cases iu
           exact LF.q 1 (AI Aa hsN O (mt (mt mh)) O Fq O (AE (AD (Ap.refl _) O)))
          refine AQ.cons O ?_ ?_
          ·
           intro mq hh o
           have hsN:=o.st t
           exact LF.q 1 (QF.fao O Gd O (AE (AD (Ap.refl _) O)))
          refine AQ.cons O ?_ ?_
          ·
           intro mq hh o
           intro md iv
           have hsN:=o.st t
           cases iv
           exact LF.q 1 (AI Aa hsN O mh O AN O (AE (AD (Ap.refl _) ⟨O,ay⟩)))
          refine AQ.cons O ?_ ?_
          ·
           intro mq hh o
           intro me iw mf iy
           have hsN:=o.st t
           cases iw
           obtain⟨rfl,mg⟩:=iy
           exact LF.q 1 (QF.ixoe hsN (mt (mt (mt (mt (mt (mt mh)))))) O O EM ew O λmi ez=>AE (AD (Ap.refl _) ez))
          refine AQ.cons O ?_ ?_
          ·
           intro mq hh o
           intro mj iz
           have hsN:=o.st t
           refine LF.q 1 ?_
           have i0:=hsN.epAt (mt (mt (mt (mt (mt (mt mh)))))) ey D8.id iz
           exact QF.ld Aa (λ_ x=>x) O i0 Ag (λe=>by cases e) O λml i1=>AE (AD (Ap.refl _) i1)
          refine AQ.cons O ?_ ?_
          ·
           intro mq hh o
           exact PH o EL O λ_ h' o' r'=>AD o' r'
          exact trivial
         intro mm cp i2 cq mn i3
         obtain⟨bi,rfl,e0⟩:=i3.st t cp
         have cq:Rd _ _ AK i2 ak:=cq
         obtain⟨rfl,⟨i4,i5⟩⟩:=AK.ex cq
         refine Aj (vs:=[.int .i64 ak.Lo,.int .i64 ak.Hi]) O O O O Ag O e0 .head O λi6 a6 db=>LF.nil (kp [15,11,94,93,0,1,7,95] O) (WF.rl (LF.q 7 (QF.mv O O (QF.fao O Gd O (AI Aa a6 O (mt mh) O AN O (QF.fao O LH O (AI Aa a6 O (mt mh) O AN O (QF.mkf O O O (QF.bld (cs:=[.int .i64 c.From,.int .i64 c.Delay,.int .i64 2,.func (.func 114) #[] #[.pointer (some ⟨K,0,none⟩),.pointer (some ⟨bi,0,none⟩)]]) NS O O O (AE ?_))))))))))
         have a7:=am.trans ((cp.ext t.1).trans db)
         have i7:=bc.mono' a7
         have i8:=be.mono' a7
         have i9:=bf.mono' a7
         obtain⟨mp,e1,ja,jb⟩:=a6.pubb (r:=A0) (x:=c) (.tail .head) ⟨_,_,_,O,b4,b5,ay,ap,i7,i8,i9,b6,b7,b8,b9,ca,cb,cc,cd,ce,cf,aq⟩
         obtain⟨jc,e2,dc,jd⟩:=e1.pubb (r:=AK) (x:=ak) .head ⟨O,⟨i4,i5⟩⟩
         have je:=jb.mono dc
         have e3:Rd jc i6 (AW.fn Tryz.prog (λx:Int=>([.int .i64 x]:List Value)) (λx:Int=>AB x) (λy:AF=> .agg #[.int .i64 y.Lo,.int .i64 y.Hi]) (λy:AF=>AF.ok y)) (.func (.func 114) #[] #[(.pointer (some ⟨K,0,none⟩)),(.pointer (some ⟨bi,0,none⟩))]) (λx=>Dw N c ak x):=Jx 114 #[(.pointer (some ⟨K,0,none⟩)),(.pointer (some ⟨bi,0,none⟩))] WU λS' h' s' e' L hs x y h1 h2=>(KK hs h1 (je.mono'' s' e') (jd.mono'' s' e') h2).mono λ_ _ _ _ p=>p
         refine Gn (cs:=[.int .i64 c.From,.int .i64 c.Delay,.int .i64 2,(.func (.func 114) #[] #[(.pointer (some ⟨K,0,none⟩)),(.pointer (some ⟨bi,0,none⟩))])]) JP O O O O O O O e2 λmr ms e4 dd=>?_
         obtain⟨e5,E⟩:=O4 E
         have jf:=e3.mono dd
         refine LF.app2 (r:=BY) (l:=V) (xs:=([(⟨c.From,c.Delay,2,(λx=>Dw N c ak x)⟩:AS)]:List AS)) O O JP O mh ⟨_,_,O,⟨_,O,ay,aq,(iq (n:=2) O),jf⟩,O⟩ O O e5 O e4 (λ_=>(.tail .head)) λjg mu e6 jh=>?_
         have e7:=e6.drop .head
         refine LF.q 1 (QF.as_ O O (AE (LF.nil (kp [7,94,93,0,1,95] O) (Al (WF.nil (λaa ww hf hw=>?_))))))
         have e8:=ax.trans (am.trans ((cp.ext t.1).trans (db.trans (ja.trans (dc.trans (dd.trans jh))))))
         exact⟨jg,(V++([(⟨c.From,c.Delay,2,(λx=>Dw N c ak x)⟩:AS)]:List AS)),_,_,hf.sub (kp [94,93,0,1,95,7] O),hw,e7,e8,E⟩
        ·
         have E:=Aw co E
         refine WF.skip (Al (WF.nil (λaa ww hf hw=>?_)))
         have e9:=t.sel [1,1,1,1,1,1] 1 O
         exact⟨ae,V,_,_,hf.sub (kp [94,93,0,1,95,7] O),hw,e9,(ax.trans am),E⟩
     ·
      rintro aa ww ⟨ba,bb,mw,mx,hf,hw,fb,ji,E⟩
      refine WF.run ?_ hf hw
      clear hf hw ww aa
      rw[CC] at E
      refine WF.rp (.inl O) (QF.addw O O O (QF.mv O O (AA (kp [95,94,93,0,1,7] O) (WF.nil (λaa ww hf hw=>?_)))))
      exact⟨ba,bb,(Ar (W+1)),_,_,hf.sub (kp [94,93,0,1,7,95] O),hw,fb,(bx.trans ji),(Au _),E⟩
    ·
     have E:=Aw bz E
     refine WF.exit O (λaa ww hf hw=>?_)
     exact⟨ae,V,_,_,hf.sub (kp [0,1,7] O),hw,a1,bx,E⟩
  ·
   rintro aa ww ⟨a9,ao,de,my,hf,hw,a8,df,E⟩
   refine WF.run ?_ hf hw
   clear hf hw ww aa
   rw[DZ] at E
   refine WF.seq (WF.seq (WF.rl (LF.q 8 (QF.mv O O (Dj O O (QF.fao O Fv O (QF.fao O Bs O (AI Aa a8 O (mt mh) O EY O (QF.mv O O ?_)))))))))
   have jj:=X.mono' (bw.trans df)
   obtain⟨A,fc,E⟩:=bd E
   refine QF.ixe O O jj Dk fc O λmz jk=>QF.ld Aa a8.1 O jk HV (λe=>by cases e) O λm0 jl=>AE (LF.al Lw O a8 λbj m1 fd dg=>?_)
   have jm:=jl.mono dg
   obtain⟨dh,di,dj,rfl,jn,jo,jp,jq,dk,dl,jr,js,dm,dn,jt,dp⟩:=A7.ex jm
   refine LF.st (vs:=[.string A.Name,.int .i64 A.Kind,.int .i64 A.Office,.int .i64 A.Cap,dh,di,.int .i64 A.Num,.int .i64 A.Den,.int .i64 A.Down,.int .i64 A.Delay,.int .i64 A.Floor,dj]) (cs':=[.string A.Name,.int .i64 A.Kind,.int .i64 A.Office,.int .i64 A.Cap,dh,di,.int .i64 A.Num,.int .i64 A.Den,.int .i64 A.Down,.int .i64 A.Delay,.int .i64 A.Floor,dj]) O O O (AC O (AC O (AC O (AC O (AC dk.one (AC dl.one (AC O (AC O (AC O (AC O (AC O (AC dp.one C6)))))))))))) HV O fd .head O O λcr an bk=>LF.nil (kp [16,7] O) (WF.seq (WF.rp (.inl O) (QF.fao O IZ O (AI Aa an O mh O AN O (QF.neq O O O (AA (kp [199,16,7] O) (WF.cut (λa w=>∃(ct:Value) (cu:List AS),IV B de cr (210,[]) a w [(7,ct)] (OS BY 181 ct cu::Bx s 106 [.string p0_w.b.Name,C,.int .i64 p0_w.b.Cells,D,u,F,G,H,I,J,.int .i64 p0_w.b.Err,.int .i64 p0_w.h.Hour,g,j,k,d]::OS AK 51 g p0_w.h.Vol::OS BE 93 j p0_w.h.Queue::OS Ab 97 k p0_w.h.Links::OS AK 51 d p0_w.peaks::L) λ_ _=>Fb N cu=some r) ?_ ?_)))))))
   ·
    refine WF.if_ O (λcv=>?_) (λcv=>?_)
    ·
     have E:=Av cv E
     refine WF.rl (LF.q 7 (QF.mv O O (QF.fao O NL O (AI Aa an O mh O AN O (QF.fao O Ov O (AI Aa an O mh O AN O (QF.mkf O O O (QF.bld (cs:=[.int .i64 A.Down,.int .i64 A.Delay,.int .i64 2,.func (.func 116) #[] #[.pointer (some ⟨bj,0,none⟩)]]) NS O O O (AE ?_)))))))))
     have ju:=dk.mono' bk
     have jv:=dl.mono' bk
     have jw:=dp.mono' bk
     obtain⟨jx,fe,jy,jz⟩:=an.pubb (r:=A7) (x:=A) .head ⟨_,_,_,O,jn,jo,jp,jq,ju,jv,jr,js,dm,dn,jt,jw⟩
     have ff:Rd jx cr (AW.fn Tryz.prog (λx:Int=>([.int .i64 x]:List Value)) (λx:Int=>AB x) (λy:AF=> .agg #[.int .i64 y.Lo,.int .i64 y.Hi]) (λy:AF=>AF.ok y)) (.func (.func 116) #[] #[(.pointer (some ⟨bj,0,none⟩))]) (λx=>Dv N A x):=Jx 116 #[(.pointer (some ⟨bj,0,none⟩))] WS λS' h' s' e' L hs x y h1 h2=>(KJ hs h1 (jz.mono'' s' e') h2).mono λ_ _ _ _ p=>p
     refine Gn (cs:=[.int .i64 A.Down,.int .i64 A.Delay,.int .i64 2,(.func (.func 116) #[] #[(.pointer (some ⟨bj,0,none⟩))])]) JP O O O O O O O fe λm2 m3 fg dq=>?_
     obtain⟨fh,E⟩:=O4 E
     have j0:=ff.mono dq
     refine LF.app2 (r:=BY) (l:=ao) (xs:=([(⟨A.Down,A.Delay,2,(λx=>Dv N A x)⟩:AS)]:List AS)) O O JP O mh ⟨_,_,O,⟨_,O,dm,dn,(iq (n:=2) O),j0⟩,O⟩ O O fh O fg (λ_=>(.tail .head)) λj1 m4 fi j2=>?_
     have fj:=fi.drop .head
     refine LF.q 1 (QF.as_ O O (AE (LF.nil (kp [7] O) (WF.nil (λaa ww hf hw=>?_)))))
     have fk:=jy.trans (dq.trans j2)
     exact⟨j1,(ao++([(⟨A.Down,A.Delay,2,(λx=>Dv N A x)⟩:AS)]:List AS)),_,_,hf.sub (kp [7] O),hw,fj,fk,E⟩
    ·
     have E:=Aw cv E
     refine WF.skip (WF.nil (λaa ww hf hw=>?_))
     have fl:=an.sel [1,1,1,1,1,1] 1 O
     exact⟨a9,ao,_,_,hf.sub (kp [7] O),hw,fl,(BO.refl de cr),E⟩
   ·
    rintro aa ww ⟨ct,cu,m5,m6,hf,hw,fm,j3,E⟩
    refine WF.run ?_ hf hw
    clear hf hw ww aa
    rw[Fb] at E
    refine WF.seq (WF.rp (.inl O) (QF.mv O O (QF.as_ O O (AA (kp [6] O) (WF.ret (λaa ww hf hw=>?_))))))
    cases E
    have fo:=bw.trans (df.trans (dg.trans (bk.trans j3)))
    exact CS hf hw O O fo fm
end Go.Proofs.YtibidnaedddfdaaGreat
