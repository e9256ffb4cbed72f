import Derived.Test.YtibidnaedddfdaaGreatCWalk8
namespace Go.Proofs.YtibidnaedddfdaaGreat
open Go.RowKit
set_option linter.unusedVariables false
set_option linter.unusedSimpArgs false
set_option maxRecDepth 10000
set_option maxHeartbeats 2000000
variable {N:Nat}{S:Nat→Prop}{L:List HP}{h:AX}
theorem Jp (hs:St S L h) {p0_:Int}(i:AB p0_) {a:Value}{c1_:Gl}(c:Pt S h GL a c1_) {r:AD}(E:Ca N c1_ p0_=some r):
 Bf Tryz.prog 108 #[.int .i64 p0_,a] S h (λv S' h'=>v= .agg #[.int .i64 r.Lo,.int .i64 r.Hi]∧AD.ok r∧St S' (L) h'):=by
 refine Ab (l:=[.int .i64 p0_,a]) 7 Tryz.func108 O Tryz.ntmps108 O λB=>?_
 rw[Ca] at E
 refine WF.seq (WF.rl (LF.al Ee O hs λs t d k=>LF.nil (kp [3,1] O) (WF.seq (WF.rl (LF.q 3 ?_)))))
 have m:=c.mono k
 refine QF.fa O m Gl.f_Litres P1 O λu o=>QF.ldi Af d.1 O o AL O λp=>QF.bld (cs:=[.int .i64 0,.int .i64 c1_.Litres]) HD O O O (AG (Ad (vs:=[.int .i64 0,.int .i64 c1_.Litres]) O O O O Ag O d .head O λw b j=>LF.nil (kp [3] O) (WF.ret (λaa ww hf hw=>?_))))
 have g:=b.drop .head
 cases E
 exact HQ hf O hw (Gk (LD hf hw b O mh Ag O) HC) O (k.trans j) ⟨O,⟨(iq (n:=0) O),p⟩,g⟩
theorem Gp (hs:St S L h) {c:Int}(i:AB c) {a:Int}(d:AB a) {b:Int}(g:AB b) {r:Int}(E:FU N c a b=some r):
 Bf Tryz.prog 173 #[.int .i64 c,.int .i64 a,.int .i64 b] S h (λv S' h'=>v= .int .i64 r∧AB r∧St S' (L) h'):=by
 refine Ab (l:=[.int .i64 c,.int .i64 a,.int .i64 b]) 21 Tryz.func173 O Tryz.ntmps173 O λB=>?_
 rw[FU] at E
 refine WF.seq (WF.rp (.inl O) (QF.as_ O O (AA (kp [0,1,2] O) (WF.seq (WF.rc (.inl O) hs (QF.mv O O (QF.mv O O (QF.mv O O ?_))))))))
 obtain⟨j,m,E⟩:=bd E
 refine GE (v:= .tuple #[.int .i64 j.1,.int .i64 j.2.1,.bool j.2.2]) (Ψ:=AB j.1∧AB j.2.1) O O O PD O (λh' o=>(Gz (St.all h') i d g m).mono λ_ _ _ _ p=>⟨p.1,⟨p.2.1,p.2.2.1⟩⟩) λt=>?_
 obtain⟨u,w⟩:=t
 refine QF.mv O O (QF.ext O O O (QF.ext O O O (QF.ext O O O (QF.as_ O O (QF.as_ O O (QF.as_ O O (Ak (kp [9,7] O) λx k s=>WF.seq (WF.seq (WF.rp (.inl O) (QF.mv O O (QF.not O O (AA (kp [19,7] O) ?_))))))))))))
 refine WF.if_ O (λq=>?_) (λq=>?_)
 ·
  have E:=A0 q E
  refine WF.seq (WF.rp (.inl O) (QF.as_ O O (AA (kp [6] O) (WF.ret (λaa ww hf hw=>?_)))))
  cases E
  exact DD hf hw O O s ⟨O,(iq (n:=0) O),k⟩
 ·
  have E:=A3 q E
  refine WF.skip (WF.seq (WF.rp (.inl O) (QF.mv O O (QF.as_ O O (AA (kp [6] O) (WF.ret (λaa ww hf hw=>?_)))))))
  cases E
  exact DD hf hw O O s ⟨O,u,k⟩
theorem N6 (hs:St S L h) {c:Value}{k:AQ}(j:Rd S h A9 c k) {a:Int}(b:AB a) {d:Int}(g:AB d) {r:Int}(E:Hs N k a d=some r):
 Bf Tryz.prog 175 #[c,.int .i64 a,.int .i64 d] S h (λv S' h'=>v= .int .i64 r∧AB r∧St S' (L) h'):=by
 refine Ab (l:=[c,.int .i64 a,.int .i64 d]) 20 Tryz.func175 O Tryz.ntmps175 O λB=>?_
 rw[Hs] at E
 refine WF.seq (WF.rl (LF.boxp O j (λe=>by cases e) O hs λV W X i H u=>LF.q 1 (QF.as_ O O (AG (LF.nil (kp [3,1,2] O) (WF.seq (WF.seq (WF.rp (.inl O) (QF.fa O u AQ.f_To E6 O λY I=>QF.ldi Af i.1 O I AL O λZ=>QF.eql O O O (AA (kp [9,3,1,2] O) ?_))))))))))
 refine WF.if_ O (λm=>?_) (λm=>?_)
 ·
  have E:=A0 m E
  refine WF.seq (WF.rp (.inl O) (QF.mv O O (QF.as_ O O (AA (kp [6] O) (WF.ret (λaa ww hf hw=>?_))))))
  cases E
  exact DD hf hw O O H ⟨O,b,i⟩
 ·
  have E:=A3 m E
  refine WF.skip (WF.seq (WF.rc (.inl O) i (QF.mv O O (QF.mv O O (QF.fa O u GH HX O λJ w=>QF.ldi Ai i.1 O w AL O λx=>QF.fa O u FL G9 O λK y=>QF.ldi Ai i.1 O y AL O λz=>?_)))))
  obtain⟨M,p,E⟩:=bd E
  refine Ao O O O No O (λh' o=>Gp (St.all h') g x z p) λA=>?_
  have C:=A
  obtain⟨Q,s,E⟩:=bd E
  refine Ao O O O H0 O (λh' o=>DT (St.all h') b C s) λD=>?_
  have F:=D
  refine QF.max O O O (QF.as_ O O (Ak (kp [6] O) λU t G=>WF.ret (λaa ww hf hw=>?_)))
  cases E
  exact DD hf hw O O (H.trans G) ⟨O,(Fj (iq (n:=0) O) F),t⟩
theorem O8 (hs:St S L h) {a:Value}{g:(List AU)}(b:Sl S h BB a g) {c:Int}(d:AB c) {r:Int}(E:IT N g c=some r):
 Bf Tryz.prog 174 #[a,.int .i64 c] S h (λv S' h'=>v= .int .i64 r∧AB r∧St S' (L) h'):=by
 refine Ab (l:=[a,.int .i64 c]) 17 Tryz.func174 O Tryz.ntmps174 O λB=>?_
 rw[IT] at E
 refine WF.seq (WF.rp (.inl O) (QF.as_ O O (AA (kp [0,1] O) (WF.seq (WF.seq (WF.rc (.inl O) hs (QF.mv O O ?_)))))))
 obtain⟨y,k,E⟩:=bd E
 refine Aa O O O Nm O (λh' o=>Ej (St.all h') (b.mono' (o.all hs.1)) k) (QF.not O O (Ak (kp [9,0,1] O) λz i m=>WF.if_ O (λp=>?_) (λp=>?_)))
 ·
  have E:=A0 p E
  refine WF.seq (WF.rp (.inl O) (QF.as_ O O (AA (kp [4] O) (WF.ret (λaa ww hf hw=>?_)))))
  cases E
  exact DD hf hw O O m ⟨O,(iq (n:=0) O),i⟩
 ·
  have E:=A3 p E
  refine WF.skip (WF.seq (WF.rc (.inl O) i (QF.mv O O (QF.mv O O ?_))))
  have u:=b.mono' m
  obtain⟨A,q,E⟩:=bd E
  refine Ao O O O Q3 O (λh' o=>Hz (St.all h') (u.mono' (o.all i.1)) d q) λw=>?_
  have s:=w
  refine QF.mv O O (QF.ext O O O (QF.ext O O O (QF.as_ O O (QF.as_ O O (Ak (kp [5] O) λx j t=>WF.seq (WF.rp (.inl O) (QF.mv O O (QF.as_ O O (AA (kp [4] O) (WF.ret (λaa ww hf hw=>?_)))))))))))
  cases E
  exact DD hf hw O O (m.trans t) ⟨O,s,j⟩
theorem Kx (hs:St S L h) {s:Value}{k:AQ}(F:Rd S h A9 s k) {d:Int}(m:AB d) {c:Bool}{j:Value}{A:(List AU)}(G:Sl S h BB j A) {b:Int}(g:AB b) {i:Int}(C:AB i) {r:Int}(E:F2 N k d c A b i=some r):
 Bf Tryz.prog 150 #[s,.int .i64 d,.bool c,j,.int .i64 b,.int .i64 i] S h (λv S' h'=>v= .int .i64 r∧AB r∧St S' (L) h'):=by
 refine Ab (l:=[s,.int .i64 d,.bool c,j,.int .i64 b,.int .i64 i]) 63 Tryz.func150 O Tryz.ntmps150 O λB=>?_
 rw[F2] at E
 refine WF.seq (WF.rl (LF.boxp O F (λe=>by cases e) O hs λq1 y z t I k6=>LF.q 1 (QF.as_ O O (AG (LF.nil (kp [6,1,2,3,4,5] O) (WF.seq (WF.seq (WF.rp (.inl O) (QF.fa O k6 AQ.f_Kind Do O λq7 k8=>QF.ldi Af t.1 O k8 AL O λr9=>AA (kp [14,6,1,2,3,4,5] O) (WF.blockJ (λa w=>IV B y z (63,[]) a w [] (L) λ_ _=>Eb N=some r) ?_ ?_))))))))))
 ·
  refine WF.seq (WF.blockJ (λa w=>IV B y z (63,[]) a w [(6,q1),(4,.int .i64 b)] (L) λ_ _=>EI N k b=some r) ?_ ?_)
  ·
   refine WF.seq (WF.blockJ (λa w=>IV B y z (63,[]) a w [(6,q1),(2,.bool c),(4,.int .i64 b)] (L) λ_ _=>Gb N c (EI N k b)=some r) ?_ ?_)
   ·
    refine WF.seq (WF.blockJ (λa w=>IV B y z (63,[]) a w [(6,q1),(2,.bool c),(4,.int .i64 b)] (L) λ_ _=>Ga N k c b (Eb N)=some r) ?_ ?_)
    ·
     refine WF.seq (WF.blockJ (λa w=>IV B y z (63,[]) a w [(6,q1),(1,.int .i64 d)] (L) λ_ _=>GZ N k d=some r) ?_ ?_)
     ·
      refine WF.seq (WF.blockJ (λa w=>IV B y z (63,[]) a w [(6,q1),(1,.int .i64 d),(3,j),(4,.int .i64 b),(5,.int .i64 i)] (L) λ_ _=>HI N k d A b i=some r) ?_ ?_)
      ·
       refine WF.seq (WF.seq (WF.seq (WF.rp (.inl O) (QF.eql O O O (QF.as_ O O (AA (kp [15,14,6,1,2,3,4,5] O) (WF.if_ O (λJ=>?_) (λJ=>?_))))))))
       ·
        have E:=A0 J E
        refine WF.exit O (λaa ww hf hw=>?_)
        exact⟨_,_,hf.sub (kp [6,1,3,4,5] O),hw,t,(Bc.refl y z),E⟩
       ·
        have E:=A3 J E
        refine WF.skip (WF.seq (WF.seq (WF.rp (.inl O) (QF.eql O O O (QF.as_ O O (AA (kp [17,14,6,1,2,4] O) (WF.if_ O (λK=>?_) (λK=>?_))))))))
        ·
         have E:=A0 K E
         refine WF.exit O (λaa ww hf hw=>?_)
         exact⟨_,_,hf.sub (kp [6,1] O),hw,t,(Bc.refl y z),E⟩
        ·
         have E:=A3 K E
         refine WF.skip (WF.seq (WF.seq (WF.rp (.inl O) (QF.eql O O O (QF.as_ O O (AA (kp [19,14,6,2,4] O) (WF.if_ O (λM=>?_) (λM=>?_))))))))
         ·
          have E:=A0 M E
          refine WF.exit O (λaa ww hf hw=>?_)
          exact⟨_,_,hf.sub (kp [6,2,4] O),hw,t,(Bc.refl y z),E⟩
         ·
          have E:=A3 M E
          refine WF.skip (WF.seq (WF.seq (WF.rp (.inl O) (QF.eql O O O (QF.as_ O O (AA (kp [21,14,6,2,4] O) (WF.if_ O (λQ=>?_) (λQ=>?_))))))))
          ·
           have E:=A0 Q E
           refine WF.exit O (λaa ww hf hw=>?_)
           exact⟨_,_,hf.sub (kp [6,2,4] O),hw,t,(Bc.refl y z),E⟩
          ·
           have E:=A3 Q E
           refine WF.skip (WF.seq (WF.rp (.inl O) (QF.eql O O O (QF.as_ O O (AA (kp [23,6,4] O) (WF.if_ O (λU=>?_) (λU=>?_)))))))
           ·
            have E:=A0 U E
            refine WF.exit O (λaa ww hf hw=>?_)
            exact⟨_,_,hf.sub (kp [6,4] O),hw,t,(Bc.refl y z),E⟩
           ·
            have E:=A3 U E
            refine WF.skip (WF.exit O (λaa ww hf hw=>?_))
            exact⟨_,_,hf.sub JH,hw,t,(Bc.refl y z),E⟩
      ·
       rintro aa ww ⟨ce,cf,hf,hw,p,V,E⟩
       refine WF.run ?_ hf hw
       clear hf hw ww aa
       rw[HI] at E
       refine WF.seq (WF.seq (WF.rc (.inr ⟨mo,by kernel_rfl⟩) p (QF.mv O O ?_)))
       have W:=k6.mono V
       refine QF.ld Ai p.1 O W Du (λe=>by cases e) O λcg a8=>QF.mv O O (QF.mv O O ?_)
       obtain⟨ch,ag,E⟩:=bd E
       refine Ao O O O Xc O (λh' o=>N6 (St.all h') (a8.mono (o.all p.1)) g C ag) λa9=>?_
       have ba:=a9
       have bb:=G.mono' (I.trans V)
       obtain⟨ci,ah,E⟩:=bd E
       refine Ao O O O Xd O (λh' o=>O8 (St.all h') (bb.mono' (o.all p.1)) ba ah) λbc=>?_
       have be:=bc
       refine QF.mv O O (QF.fa O W B0 GA O λcj bf=>QF.ldi Ai p.1 O bf AL O λbg=>?_)
       obtain⟨ck,ai,E⟩:=bd E
       refine Ao O O O No O (λh' o=>Gp (St.all h') be m bg ai) λbh=>?_
       have bi:=bh
       refine QF.fa O W JX Nd O λcl bj=>QF.ldi Ai p.1 O bj AL O λbk=>?_
       obtain⟨cm,aj,E⟩:=bd E
       refine Ao O O O Mh O (λh' o=>Ex (St.all h') bi bk aj) λbl=>?_
       have bm:=bl
       refine QF.as_ O O (Ak (kp [12] O) λcn ak bn=>WF.ret (λaa ww hf hw=>?_))
       cases E
       have am:=I.trans (V.trans bn)
       exact DD hf hw O O am ⟨O,bm,ak⟩
     ·
      rintro aa ww ⟨co,cp,hf,hw,D,an,E⟩
      refine WF.run ?_ hf hw
      clear hf hw ww aa
      rw[GZ] at E
      refine WF.seq (WF.seq (WF.rc (.inl O) D ?_))
      have ao:=k6.mono an
      refine QF.fa O ao AQ.f_Num Fm O λcq bo=>QF.ldi Ai D.1 O bo AL O λbp=>QF.mv O O (QF.fa O ao B0 GA O λcr bq=>QF.ldi Ai D.1 O bq AL O λbr=>?_)
      obtain⟨cs,ap,E⟩:=bd E
      refine Ao O O O No O (λh' o=>Gp (St.all h') bp m br ap) λbt=>?_
      have bu:=bt
      refine QF.as_ O O (Ak (kp [12] O) λct aq bv=>WF.ret (λaa ww hf hw=>?_))
      cases E
      have ar:=I.trans (an.trans bv)
      exact DD hf hw O O ar ⟨O,bu,aq⟩
    ·
     rintro aa ww ⟨cu,cv,hf,hw,u,X,E⟩
     refine WF.run ?_ hf hw
     clear hf hw ww aa
     rw[Ga] at E
     refine WF.seq (WF.seq (WF.rp (.inl O) (QF.mv O O (AA (kp [44,6,4] O) (WF.if_ O (λY=>?_) (λY=>?_))))))
     ·
      have E:=A0 Y E
      refine WF.seq (WF.rc (.inl O) u (QF.mv O O ?_))
      have au:=k6.mono X
      refine QF.fa O au AQ.f_Num Fm O λcw bw=>QF.ldi Ai u.1 O bw AL O λbx=>QF.fa O au AQ.f_Den Gh O λcx bz=>QF.ldi Ai u.1 O bz AL O λb0=>?_
      obtain⟨cy,av,E⟩:=bd E
      refine Ao O O O No O (λh' o=>Gp (St.all h') g bx b0 av) λb1=>?_
      have b2:=b1
      refine QF.as_ O O (Ak (kp [12] O) λcz aw b3=>WF.ret (λaa ww hf hw=>?_))
      cases E
      have ax:=I.trans (X.trans b3)
      exact DD hf hw O O ax ⟨O,b2,aw⟩
     ·
      have E:=A3 Y E
      refine WF.skip (WF.exit O (λaa ww hf hw=>?_))
      exact⟨_,_,hf.sub JH,hw,u,X,E⟩
   ·
    rintro aa ww ⟨c0,c1,hf,hw,H,ay,E⟩
    refine WF.run ?_ hf hw
    clear hf hw ww aa
    rw[Gb] at E
    refine WF.seq (WF.rp (.inl O) (QF.mv O O (QF.not O O (AA (kp [52,6,4] O) (WF.if_ O (λZ=>?_) (λZ=>?_))))))
    ·
     have E:=A0 Z E
     refine WF.seq (WF.rp (.inl O) (QF.as_ O O (AA (kp [12] O) (WF.ret (λaa ww hf hw=>?_)))))
     cases E
     exact DD hf hw O O (I.trans ay) ⟨O,(iq (n:=0) O),H⟩
    ·
     have E:=A3 Z E
     refine WF.skip (WF.nil (λaa ww hf hw=>?_))
     exact⟨_,_,hf.sub (kp [6,4] O),hw,H,ay,E⟩
  ·
   rintro aa ww ⟨c2,c3,hf,hw,x,az,E⟩
   refine WF.run ?_ hf hw
   clear hf hw ww aa
   rw[EI] at E
   refine WF.seq (WF.seq (WF.rc (.inr ⟨mo,by kernel_rfl⟩) x (QF.mv O O ?_)))
   have ab:=k6.mono az
   refine QF.fa O ab AQ.f_Crest Nc O λc4 b4=>QF.ldi Ai x.1 O b4 AL O λb5=>?_
   obtain⟨c5,a0,E⟩:=bd E
   refine Ao O O O H0 O (λh' o=>DT (St.all h') g b5 a0) λb6=>?_
   have b7:=b6
   refine QF.max O O O (QF.fa O ab AQ.f_Num Fm O λc6 b8=>QF.ldi Ai x.1 O b8 AL O λa1=>QF.fa O ab AQ.f_Den Gh O λb9 a2=>QF.ldi Ai x.1 O a2 AL O λa3=>?_)
   obtain⟨ca,ac,E⟩:=bd E
   refine Ao O O O No O (λh' o=>Gp (St.all h') (Fj (iq (n:=0) O) b7) a1 a3 ac) λa4=>?_
   have a5:=a4
   refine QF.as_ O O (Ak (kp [12] O) λcb ad a6=>WF.ret (λaa ww hf hw=>?_))
   cases E
   have ae:=I.trans (az.trans a6)
   exact DD hf hw O O ae ⟨O,a5,ad⟩
 ·
  rintro aa ww ⟨cc,cd,hf,hw,af,a7,E⟩
  refine WF.run ?_ hf hw
  clear hf hw ww aa
  rw[Eb] at E
  refine WF.seq (WF.rp (.inl O) (QF.as_ O O (AA (kp [12] O) (WF.ret (λaa ww hf hw=>?_)))))
  cases E
  exact DD hf hw O O (I.trans a7) ⟨O,(iq (n:=0) O),af⟩
theorem Mp (hs:St S L h) {d:Value}{w:AQ}(p:Rd S h A9 d w) {g:Value}{x:AT}(q:Rd S h AZ g x) {b:Value}{i:AD}(j:Rd S h AF b i) {c:Value}{k:AD}(m:Rd S h AF c k) {r:AD}(E:DO N w x i k=some r):
 Bf Tryz.prog 110 #[d,g,b,c] S h (λv S' h'=>v= .agg #[.int .i64 r.Lo,.int .i64 r.Hi]∧AD.ok r∧St S' (L) h'):=by
 refine Ab (l:=[d,g,b,c]) 42 Tryz.func110 O Tryz.ntmps110 O λB=>?_
 rw[DO] at E
 refine WF.seq (WF.rl (LF.boxp O p (λe=>by cases e) O hs λq1 S2 h3 Z e5 k6=>?_))
 have k7:=q.mono e5
 refine LF.boxp O k7 (λe=>by cases e) O Z λq8 S9 bg F A ab=>?_
 have ac:=j.mono (e5.trans A)
 refine LF.boxp O ac (λe=>by cases e) O F λbh bi bj G C ad=>?_
 have y:=e5.trans (A.trans C)
 have ae:=m.mono y
 refine LF.boxp O ae (λe=>by cases e) O G λbk bl bm H s af=>LF.al Ee O H λbn bo a n=>LF.nil (kp [8,7,6,5,4] O) (WF.seq (Ed 33 mo (by kernel_rfl) O a ?_))
 have I:=A.trans (C.trans (s.trans n))
 have t:=k6.mono I
 refine QF.ld Ai a.1 O t Du (λe=>by cases e) O λbp ag=>?_
 have J:=C.trans (s.trans n)
 have u:=ab.mono J
 refine QF.fa O u AT.f_Pos Hh O λbq ah=>QF.fa O ah AD.f_Lo DE O λbr ai=>QF.ldi Ai a.1 O ai AL O λaj=>QF.fa O u AT.f_Open Hg O λbt ak=>QF.fa O ak AD.f_Lo DE O λbu am=>QF.ldi Ai a.1 O am AL O λbv=>QF.geq O O O (QF.fa O t FX Gq O λbw an=>QF.fa O an Ih.f_Lo KF O λbx ao=>QF.ldl Ai a.1 O ao GN O λbz ap=>?_)
 have K:=ad.mono (s.trans n)
 refine QF.fa O K AD.f_Lo DE O λb0 aq=>QF.ldi Ai a.1 O aq AL O λar=>?_
 have M:=af.mono n
 refine QF.fa O M AD.f_Hi Cn O λb1 au=>QF.ldi Ai a.1 O au AL O λav=>?_
 obtain⟨Q,U,E⟩:=bd E
 refine Ao O O O Uf O (λh' o=>Kx (St.all h') (ag.mono (o.all a.1)) aj (ap.mono' (o.all a.1)) ar av U) λaw=>?_
 have ax:=aw
 refine QF.ld Ai a.1 O t Du (λe=>by cases e) O λb2 ay=>QF.fa O u AT.f_Pos Hh O λb3 az=>QF.fa O az AD.f_Hi Cn O λb4 a0=>QF.ldi Ai a.1 O a0 AL O λa1=>QF.fa O u AT.f_Open Hg O λb5 a2=>QF.fa O a2 AD.f_Hi Cn O λb6 a3=>QF.ldi Ai a.1 O a3 AL O λb7=>QF.geq O O O (QF.fa O t FX Gq O λb8 a4=>QF.fa O a4 Ih.f_Hi KE O λb9 a5=>QF.ldl Ai a.1 O a5 GN O λca a6=>QF.fa O K AD.f_Hi Cn O λcb a7=>QF.ldi Ai a.1 O a7 AL O λa8=>QF.fa O M AD.f_Lo DE O λcc a9=>?_)
 refine QF.ldi Ai a.1 O a9 AL O λba=>?_
 obtain⟨V,W,E⟩:=bd E
 refine Ao O O O Uf O (λh' o=>Kx (St.all h') (ay.mono (o.all a.1)) a1 (a6.mono' (o.all a.1)) a8 ba W) λbb=>?_
 have bc:=bb
 refine QF.bld (cs:=[.int .i64 Q,.int .i64 V]) HD O O O (Dj λcd X be=>Ad (vs:=[.int .i64 Q,.int .i64 V]) O O O O Ag O X .head O λce z bf=>LF.nil (kp [8] O) (WF.ret (λaa ww hf hw=>?_)))
 have Y:=z.drop .head
 cases E
 have D:=y.trans (s.trans (n.trans (be.trans bf)))
 exact HQ hf O hw (Gk (LD hf hw z O mh Ag O) HC) O D ⟨O,⟨ax,bc⟩,Y⟩
theorem Jo (hs:St S L h) {g:Int}(i:AB g) {a:Value}{c1_:AQ}(k:Pt S h A9 a c1_) {b:Value}{c2_:AT}(m:Pt S h AZ b c2_) {c:Value}{c3_:AD}(n:Pt S h AF c c3_) {r:AD}(E:CZ N c1_ c2_ c3_ g=some r):
 Bf Tryz.prog 109 #[.int .i64 g,a,b,c] S h (λv S' h'=>v= .agg #[.int .i64 r.Lo,.int .i64 r.Hi]∧AD.ok r∧St S' (L) h'):=by
 refine Ab (l:=[.int .i64 g,a,b,c]) 12 Tryz.func109 O Tryz.ntmps109 O λB=>?_
 rw[CZ] at E
 refine WF.seq (WF.rl (LF.al Ee O hs λb1 h2 d y=>LF.nil (kp [5,0,1,2,3] O) (WF.seq (Ed 6 mo (by kernel_rfl) O d ?_))))
 have U:=k.mono y
 refine QF.ld Ai d.1 O U Du (λe=>by cases e) O λv6 V=>?_
 have W:=m.mono y
 refine QF.ld Ai d.1 O W Gj (λe=>by cases e) O λv9 z=>QF.mv O O ?_
 obtain⟨A,p,E⟩:=bd E
 refine Ao O O O K0 O (λh' o=>Ev (St.all h') i p) λC=>?_
 obtain⟨D,F⟩:=C
 have G:=n.mono y
 refine QF.ld Ai d.1 O G Ag (λe=>by cases e) O λX H=>?_
 obtain⟨q,s,E⟩:=bd E
 refine Ao O O O Xv O (λh' o=>Mp (St.all h') (V.mono (o.all d.1)) (z.mono (o.all d.1)) (AF.mk (x:=A) ⟨D,F⟩) (H.mono (o.all d.1)) s) λI=>?_
 obtain⟨J,K⟩:=I
 refine Dj λY t M=>Ad (vs:=[.int .i64 q.Lo,.int .i64 q.Hi]) O O O O Ag O t .head O λZ j Q=>LF.nil (kp [5] O) (WF.ret (λaa ww hf hw=>?_))
 have u:=j.drop .head
 cases E
 have w:=y.trans (M.trans Q)
 exact HQ hf O hw (Gk (LD hf hw j O mh Ag O) HC) O w ⟨O,⟨J,K⟩,u⟩
theorem Kw (hs:St S L h) {c:Int}(i:AB c) {a:Int}(d:AB a) {b:Int}(g:AB b) {r:Int}(E:HA N c a b=some r):
 Bf Tryz.prog 176 #[.int .i64 c,.int .i64 a,.int .i64 b] S h (λv S' h'=>v= .int .i64 r∧AB r∧St S' (L) h'):=by
 refine Ab (l:=[.int .i64 c,.int .i64 a,.int .i64 b]) 21 Tryz.func176 O Tryz.ntmps176 O λB=>?_
 rw[HA] at E
 refine WF.seq (WF.rp (.inl O) (QF.as_ O O (AA (kp [0,1,2] O) (WF.seq (WF.rc (.inl O) hs (QF.mv O O (QF.mv O O (QF.mv O O ?_))))))))
 obtain⟨j,m,E⟩:=bd E
 refine GE (v:= .tuple #[.int .i64 j.1,.int .i64 j.2.1,.bool j.2.2]) (Ψ:=AB j.1∧AB j.2.1) O O O PD O (λh' o=>(Gz (St.all h') i d g m).mono λ_ _ _ _ p=>⟨p.1,⟨p.2.1,p.2.2.1⟩⟩) λt=>?_
 obtain⟨u,w⟩:=t
 refine QF.mv O O (QF.ext O O O (QF.ext O O O (QF.ext O O O (QF.as_ O O (QF.as_ O O (QF.as_ O O (Ak (kp [9,7] O) λx k s=>WF.seq (WF.seq (WF.rp (.inl O) (QF.mv O O (QF.not O O (AA (kp [19,7] O) ?_))))))))))))
 refine WF.if_ O (λq=>?_) (λq=>?_)
 ·
  have E:=A0 q E
  refine WF.seq (WF.rp (.inl O) (QF.as_ O O (AA (kp [6] O) (WF.ret (λaa ww hf hw=>?_)))))
  cases E
  exact DD hf hw O O s ⟨O,(iq (n:=0) O),k⟩
 ·
  have E:=A3 q E
  refine WF.skip (WF.seq (WF.rp (.inl O) (QF.mv O O (QF.as_ O O (AA (kp [6] O) (WF.ret (λaa ww hf hw=>?_)))))))
  cases E
  exact DD hf hw O O s ⟨O,u,k⟩
theorem Ld (hs:St S L h) {b:Value}{k:AQ}(j:Rd S h A9 b k) {a:Int}(d:AB a) {c:Int}(i:AB c) {r:Int}(E:HZ N k a c=some r):
 Bf Tryz.prog 151 #[b,.int .i64 a,.int .i64 c] S h (λv S' h'=>v= .int .i64 r∧AB r∧St S' (L) h'):=by
 refine Ab (l:=[b,.int .i64 a,.int .i64 c]) 23 Tryz.func151 O Tryz.ntmps151 O λB=>?_
 rw[HZ] at E
 refine WF.seq (WF.rl (LF.boxp O j (λe=>by cases e) O hs λq1 S2 h3 g J p=>LF.q 1 (QF.as_ O O (AG (LF.nil (kp [3,1,2] O) (WF.seq (WF.seq (WF.rp (.inl O) (QF.fa O p AQ.f_Kind Do O λq7 K=>QF.ldi Af g.1 O K AL O λr9=>QF.neq O O O (AA (kp [9,3,1,2] O) ?_))))))))))
 refine WF.if_ O (λm=>?_) (λm=>?_)
 ·
  have E:=A0 m E
  refine WF.seq (WF.rp (.inl O) (QF.as_ O O (AA (kp [6] O) (WF.ret (λaa ww hf hw=>?_)))))
  cases E
  exact DD hf hw O O J ⟨O,(iq (n:=0) O),g⟩
 ·
  have E:=A3 m E
  refine WF.skip (WF.seq (WF.rc (.inr ⟨mo,by kernel_rfl⟩) g (QF.mv O O (QF.fa O p AQ.f_Num Fm O λM w=>QF.ldi Ai g.1 O w AL O λx=>QF.fa O p AQ.f_Den Gh O λQ y=>QF.ldi Ai g.1 O y AL O λz=>?_))))
  obtain⟨U,s,E⟩:=bd E
  refine Ao O O O Ud O (λh' o=>Kw (St.all h') d x z s) λA=>?_
  have V:=A
  refine QF.mv O O (QF.fa O p GH HX O λW C=>QF.ldi Ai g.1 O C AL O λD=>QF.fa O p FL G9 O λX F=>QF.ldi Ai g.1 O F AL O λG=>?_)
  obtain⟨Y,t,E⟩:=bd E
  refine Ao O O O Ud O (λh' o=>Kw (St.all h') i D G t) λH=>?_
  have Z:=H
  refine QF.subw O O O (QF.as_ O O (Ak (kp [6] O) λab u I=>WF.ret (λaa ww hf hw=>?_)))
  cases E
  exact DD hf hw O O (J.trans I) ⟨O,(BA _),u⟩
theorem Ja (hs:St S L h) {d:Value}{p:AQ}(m:Rd S h A9 d p) {a:Value}{g:AD}(i:Rd S h AF a g) {c:Value}{j:AD}(k:Rd S h AF c j) {r:AD}(E:GJ N p g j=some r):
 Bf Tryz.prog 113 #[d,a,c] S h (λv S' h'=>v= .agg #[.int .i64 r.Lo,.int .i64 r.Hi]∧AD.ok r∧St S' (L) h'):=by
 refine Ab (l:=[d,a,c]) 20 Tryz.func113 O Tryz.ntmps113 O λB=>?_
 rw[GJ] at E
 refine WF.seq (WF.rl (LF.boxp O m (λe=>by cases e) O hs λq1 S2 h3 K M k6=>?_))
 have k7:=i.mono M
 refine LF.boxp O k7 (λe=>by cases e) O K λq8 S9 ao u s Q=>?_
 have U:=k.mono (M.trans s)
 refine LF.boxp O U (λe=>by cases e) O u λap aq ar w t V=>LF.al Ee O w λau av b n=>LF.nil (kp [6,5,4,3] O) (WF.seq (Ed 13 mo (by kernel_rfl) O b ?_))
 have x:=s.trans (t.trans n)
 have y:=k6.mono x
 refine QF.ld Ai b.1 O y Du (λe=>by cases e) O λaw W=>?_
 have z:=Q.mono (t.trans n)
 refine QF.fa O z AD.f_Lo DE O λax X=>QF.ldi Ai b.1 O X AL O λY=>?_
 have A:=V.mono n
 refine QF.fa O A AD.f_Hi Cn O λay Z=>QF.ldi Ai b.1 O Z AL O λab=>?_
 obtain⟨C,D,E⟩:=bd E
 refine Ao O O O Ue O (λh' o=>Ld (St.all h') (W.mono (o.all b.1)) Y ab D) λac=>?_
 have ad:=ac
 refine QF.ld Ai b.1 O y Du (λe=>by cases e) O λaz ae=>QF.fa O z AD.f_Hi Cn O λa0 af=>QF.ldi Ai b.1 O af AL O λag=>QF.fa O A AD.f_Lo DE O λa1 ah=>QF.ldi Ai b.1 O ah AL O λai=>?_
 obtain⟨F,G,E⟩:=bd E
 refine Ao O O O Ue O (λh' o=>Ld (St.all h') (ae.mono (o.all b.1)) ag ai G) λaj=>?_
 have ak:=aj
 refine QF.bld (cs:=[.int .i64 C,.int .i64 F]) HD O O O (Dj λa2 H am=>Ad (vs:=[.int .i64 C,.int .i64 F]) O O O O Ag O H .head O λa3 q an=>LF.nil (kp [6] O) (WF.ret (λaa ww hf hw=>?_)))
 have I:=q.drop .head
 cases E
 have J:=M.trans (s.trans (t.trans (n.trans (am.trans an))))
 exact HQ hf O hw (Gk (LD hf hw q O mh Ag O) HC) O J ⟨O,⟨ad,ak⟩,I⟩
theorem In (hs:St S L h) {b:Value}{a:AD}(c:Rd S h AF b a) {r:AD}(E:FH N a=some r):
 Bf Tryz.prog 112 #[b] S h (λv S' h'=>v= .agg #[.int .i64 r.Lo,.int .i64 r.Hi]∧AD.ok r∧St S' (L) h'):=by
 refine Ab (l:=[b]) 10 Tryz.func112 O Tryz.ntmps112 O λB=>?_
 rw[FH] at E
 refine WF.seq (WF.rl (LF.boxp O c (λe=>by cases e) O hs λD F G o x y=>LF.al Ee O o λH I g i=>LF.nil (kp [2,1] O) (WF.seq (WF.rl (LF.q 7 ?_)))))
 have j:=y.mono i
 refine QF.fa O j AD.f_Lo DE O λz p=>QF.ldi Af g.1 O p AL O λs=>QF.max O O O (QF.fa O j AD.f_Hi Cn O λA t=>QF.ldi Af g.1 O t AL O λu=>QF.max O O O (QF.bld (cs:=[.int .i64 (max 0 a.Lo),.int .i64 (max 0 a.Hi)]) HD O O O (AG (Ad (vs:=[.int .i64 (max 0 a.Lo),.int .i64 (max 0 a.Hi)]) O O O O Ag O g .head O λC d w=>LF.nil (kp [2] O) (WF.ret (λaa ww hf hw=>?_))))))
 have k:=d.drop .head
 cases E
 have m:=x.trans (i.trans w)
 exact HQ hf O hw (Gk (LD hf hw d O mh Ag O) HC) O m ⟨O,⟨(Fj (iq (n:=0) O) s),(Fj (iq (n:=0) O) u)⟩,k⟩
theorem Jn (hs:St S L h) {c:Int}(g:AB c) {a:Value}{c1_:AQ}(j:Pt S h A9 a c1_) {b:Value}{c2_:AD}(k:Pt S h AF b c2_) {r:AD}(E:CY N c1_ c2_ c=some r):
 Bf Tryz.prog 111 #[.int .i64 c,a,b] S h (λv S' h'=>v= .agg #[.int .i64 r.Lo,.int .i64 r.Hi]∧AD.ok r∧St S' (L) h'):=by
 refine Ab (l:=[.int .i64 c,a,b]) 11 Tryz.func111 O Tryz.ntmps111 O λB=>?_
 rw[CY] at E
 refine WF.seq (WF.rl (LF.al Ee O hs λb1 h2 d u=>LF.nil (kp [4,0,1,2] O) (WF.seq (Ed 6 mo (by kernel_rfl) O d ?_))))
 have U:=j.mono u
 refine QF.ld Ai d.1 O U Du (λe=>by cases e) O λv6 V=>QF.mv O O ?_
 obtain⟨W,w,E⟩:=bd E
 refine Ao O O O K0 O (λh' o=>Ev (St.all h') g w) λX=>?_
 obtain⟨y,z⟩:=X
 have A:=k.mono u
 refine QF.ld Ai d.1 O A Ag (λe=>by cases e) O λY C=>?_
 obtain⟨D,m,E⟩:=bd E
 refine Ao O O O Un O (λh' o=>Ja (St.all h') (V.mono (o.all d.1)) (AF.mk (x:=W) ⟨y,z⟩) (C.mono (o.all d.1)) m) λF=>?_
 obtain⟨G,H⟩:=F
 obtain⟨n,p,E⟩:=bd E
 refine Ao O O O Uo O (λh' o=>In (St.all h') (AF.mk (x:=D) ⟨G,H⟩) p) λI=>?_
 obtain⟨J,K⟩:=I
 refine Dj λZ q M=>Ad (vs:=[.int .i64 n.Lo,.int .i64 n.Hi]) O O O O Ag O q .head O λab i Q=>LF.nil (kp [4] O) (WF.ret (λaa ww hf hw=>?_))
 have s:=i.drop .head
 cases E
 have t:=u.trans (M.trans Q)
 exact HQ hf O hw (Gk (LD hf hw i O mh Ag O) HC) O t ⟨O,⟨J,K⟩,s⟩
theorem Om (hs:St S L h) {a:Value}{i:AD}(d:Rd S h AF a i) {b:Value}{j:AD}(g:Rd S h AF b j) {r:AD}(E:JQ N i j=some r):
 Bf Tryz.prog 115 #[a,b] S h (λv S' h'=>v= .agg #[.int .i64 r.Lo,.int .i64 r.Hi]∧AD.ok r∧St S' (L) h'):=by
 refine Ab (l:=[a,b]) 16 Tryz.func115 O Tryz.ntmps115 O λB=>?_
 rw[JQ] at E
 refine WF.seq (WF.rl (LF.boxp O d (λe=>by cases e) O hs λq1 S2 h3 C e5 k6=>?_))
 have k7:=g.mono e5
 refine LF.boxp O k7 (λe=>by cases e) O C λq8 S9 ab n p D=>LF.al Ee O n λac ad c m=>LF.nil (kp [4,3,2] O) (WF.seq (Ed 11 mo (by kernel_rfl) O c ?_))
 have q:=k6.mono (p.trans m)
 refine QF.fa O q AD.f_Lo DE O λae F=>QF.ldi Ai c.1 O F AL O λG=>?_
 have s:=D.mono m
 refine QF.fa O s AD.f_Hi Cn O λaf H=>QF.ldi Ai c.1 O H AL O λI=>?_
 obtain⟨t,u,E⟩:=bd E
 refine Ao O O O H0 O (λh' o=>DT (St.all h') G I u) λJ=>?_
 have K:=J
 refine QF.fa O q AD.f_Hi Cn O λag M=>QF.ldi Ai c.1 O M AL O λQ=>QF.fa O s AD.f_Lo DE O λah U=>QF.ldi Ai c.1 O U AL O λV=>?_
 obtain⟨w,x,E⟩:=bd E
 refine Ao O O O H0 O (λh' o=>DT (St.all h') Q V x) λW=>?_
 have X:=W
 refine QF.bld (cs:=[.int .i64 t,.int .i64 w]) HD O O O (Dj λai y Y=>Ad (vs:=[.int .i64 t,.int .i64 w]) O O O O Ag O y .head O λaj k Z=>LF.nil (kp [4] O) (WF.ret (λaa ww hf hw=>?_)))
 have z:=k.drop .head
 cases E
 have A:=e5.trans (p.trans (m.trans (Y.trans Z)))
 exact HQ hf O hw (Gk (LD hf hw k O mh Ag O) HC) O A ⟨O,⟨K,X⟩,z⟩
theorem Jm (hs:St S L h) {c:Int}(g:AB c) {a:Value}{c1_:AQ}(j:Pt S h A9 a c1_) {b:Value}{c2_:AD}(k:Pt S h AF b c2_) {r:AD}(E:CX N c1_ c2_ c=some r):
 Bf Tryz.prog 114 #[.int .i64 c,a,b] S h (λv S' h'=>v= .agg #[.int .i64 r.Lo,.int .i64 r.Hi]∧AD.ok r∧St S' (L) h'):=by
 refine Ab (l:=[.int .i64 c,a,b]) 13 Tryz.func114 O Tryz.ntmps114 O λB=>?_
 rw[CX] at E
 refine WF.seq (WF.rl (LF.al Ee O hs λb1 h2 d z=>LF.nil (kp [4,0,1,2] O) (WF.seq (Ed 8 mo (by kernel_rfl) O d ?_))))
 obtain⟨y5,A,E⟩:=bd E
 refine Ao O O O K0 O (λh' o=>Ev (St.all h') (iq (n:=0) O) A) λr6=>?_
 obtain⟨r7,r8⟩:=r6
 have k9:=j.mono z
 refine QF.ld Ai d.1 O k9 Du (λe=>by cases e) O λaf C=>?_
 have D:=k.mono z
 refine QF.ld Ai d.1 O D Ag (λe=>by cases e) O λag F=>QF.mv O O ?_
 obtain⟨G,m,E⟩:=bd E
 refine Ao O O O K0 O (λh' o=>Ev (St.all h') g m) λH=>?_
 obtain⟨I,J⟩:=H
 obtain⟨K,p,E⟩:=bd E
 refine Ao O O O Un O (λh' o=>Ja (St.all h') (C.mono (o.all d.1)) (F.mono (o.all d.1)) (AF.mk (x:=G) ⟨I,J⟩) p) λM=>?_
 obtain⟨Q,U⟩:=M
 obtain⟨V,q,E⟩:=bd E
 refine Ao O O O Xs O (λh' o=>Om (St.all h') (AF.mk (x:=y5) ⟨r7,r8⟩) (AF.mk (x:=K) ⟨Q,U⟩) q) λW=>?_
 obtain⟨X,Y⟩:=W
 obtain⟨s,t,E⟩:=bd E
 refine Ao O O O Uo O (λh' o=>In (St.all h') (AF.mk (x:=V) ⟨X,Y⟩) t) λZ=>?_
 obtain⟨ab,ac⟩:=Z
 refine Dj λah u ad=>Ad (vs:=[.int .i64 s.Lo,.int .i64 s.Hi]) O O O O Ag O u .head O λai i ae=>LF.nil (kp [4] O) (WF.ret (λaa ww hf hw=>?_))
 have w:=i.drop .head
 cases E
 have y:=z.trans (ad.trans ae)
 exact HQ hf O hw (Gk (LD hf hw i O mh Ag O) HC) O y ⟨O,⟨ab,ac⟩,w⟩
theorem Jb (hs:St S L h) {c:Value}{d:C7}(s:Rd S h BO c d) {i:Int}(u:AB i) {b:Int}(m:AB b) {r:Int×Int}(E:GK N d i b=some r):
 Bf Tryz.prog 117 #[c,.int .i64 i,.int .i64 b] S h (λv S' h'=>v= .tuple #[.int .i64 r.1,.int .i64 r.2]∧AB r.1∧AB r.2∧St S' (L) h'):=by
 refine Ab (l:=[c,.int .i64 i,.int .i64 b]) 51 Tryz.func117 O Tryz.ntmps117 O λB=>?_
 rw[GK] at E
 refine WF.seq (WF.rl (LF.boxp O s (λe=>by cases e) O hs λq1 M h3 y Q K=>LF.q 2 (QF.as_ O O (QF.as_ O O (AG (LF.nil (kp [3,1,2] O) (WF.seq (WF.rc (.inl O) y (QF.mv O O (QF.fa O K C7.f_Num O3 O λq7 k8=>QF.ldi Ai y.1 O k8 AL O λr9=>QF.fa O K C7.f_Den Ip O λad U=>?_))))))))))
 refine QF.ldi Ai y.1 O U AL O λV=>?_
 obtain⟨g,G,E⟩:=bd E
 refine GE (v:= .tuple #[.int .i64 g.1,.int .i64 g.2.1,.bool g.2.2]) (Ψ:=AB g.1∧AB g.2.1) O O O PD O (λh' o=>(Gz (St.all h') u r9 V G).mono λ_ _ _ _ p=>⟨p.1,⟨p.2.1,p.2.2.1⟩⟩) λW=>?_
 obtain⟨X,ae⟩:=W
 refine QF.mv O O (QF.ext O O O (QF.ext O O O (QF.ext O O O (QF.as_ O O (QF.as_ O O (QF.as_ O O (Ak (kp [10,9,8,3,2] O) λz j t=>WF.seq (WF.seq (WF.rp (.inl O) (QF.mv O O (QF.not O O (AA (kp [23,9,8,3,2] O) ?_))))))))))))
 refine WF.if_ O (λA=>?_) (λA=>?_)
 ·
  have E:=A0 A E
  refine WF.seq (WF.rp (.inl O) (QF.as_ O O (QF.as_ O O (AA (kp [7,6] O) (WF.ret (λaa ww hf hw=>?_))))))
  cases E
  exact HQ hf O hw (Gk (Jj hf (v:=_) O) (Gk (Jj hf (v:=_) O) HC)) O (Q.trans t) ⟨O,(iq (n:=0) O),(iq (n:=0) O),j⟩
 ·
  have E:=A3 A E
  refine WF.skip (WF.seq (WF.rp (.inl O) (QF.as_ O O (AA (kp [11,9,8,3,2] O) (WF.seq (WF.seq (WF.rp (.inl O) (QF.mv O O (QF.geq O O O (QF.mv O O (QF.cutv 5 31 (.bool ((decide (0≤b))&&(decide (b<d.Den)))) ?_ ?_)))))))))))
  ·
   cases af:(decide (0≤b))
   ·exact AK O O
   ·
    refine QF.gy O O O (QF.mv O O (QF.gy O O O ?_))
    have Y:=K.mono t
    exact QF.fa O Y C7.f_Den Ip O λag Z=>QF.gy O O O (QF.ldi Af j.1 O Z AL O λah=>QF.gy O O O (QF.lss O O O (QF.pick O O O (AH O))))
  refine AA (kp [31,11,9,8,3,2] O) (WF.cut (λa w=>∃(x:Int),IV B M z (51,[]) a w [(9,.int .i64 g.2.1),(8,.int .i64 g.1),(3,q1),(11,.int .i64 x)] (L) λ_ _=>AB x∧Fq N d g x=some r) ?_ ?_)
  ·
   refine WF.if_ O (λC=>?_) (λC=>?_)
   ·
    have E:=A0 C E
    refine WF.rp (.inl O) (QF.mv O O (QF.as_ O O (AA (kp [11,9,8,3] O) (WF.nil (λaa ww hf hw=>?_)))))
    exact⟨b,_,_,hf.sub (kp [9,8,3,11] O),hw,j,(Bc.refl M z),m,E⟩
   ·
    have E:=A3 C E
    refine WF.skip (WF.nil (λaa ww hf hw=>?_))
    exact⟨0,_,_,hf.sub (kp [9,8,3,11] O),hw,j,(Bc.refl M z),(iq (n:=0) O),E⟩
  ·
   rintro aa ww ⟨x,ai,aj,hf,hw,k,D,ak,E⟩
   refine WF.run ?_ hf hw
   clear hf hw ww aa
   rw[Fq] at E
   refine WF.seq (WF.seq (WF.rp (.inl O) (QF.mv O O (QF.mv O O (QF.addw O O O ?_)))))
   have H:=K.mono (t.trans D)
   refine QF.fa O H C7.f_Den Ip O λam ab=>QF.ldi Af k.1 O ab AL O λan=>QF.lss O O O (AA (kp [38,9,8,3,11] O) (WF.if_ O (λF=>?_) (λF=>?_)))
   ·
    have E:=A0 F E
    refine WF.seq (WF.rp (.inl O) (QF.mv O O (QF.mv O O (QF.mv O O (QF.addw O O O (QF.as_ O O (QF.as_ O O (AA (kp [7,6] O) (WF.ret (λaa ww hf hw=>?_))))))))))
    cases E
    have I:=Q.trans (t.trans D)
    exact HQ hf O hw (Gk (Jj hf (v:=_) O) (Gk (Jj hf (v:=_) O) HC)) O I ⟨O,X,(BA _),k⟩
   ·
    have E:=A3 F E
    refine WF.skip (WF.seq (WF.rp (.inr ⟨mo,by kernel_rfl⟩) (QF.mv O O (QF.addw O O O (QF.mv O O (QF.mv O O (QF.addw O O O (QF.fa O H C7.f_Den Ip O λao ac=>QF.ldi Af k.1 O ac AL O λap=>QF.subw O O O (QF.as_ O O (QF.as_ O O (AA (kp [7,6] O) ?_)))))))))))
    refine WF.ret (λaa ww hf hw=>?_)
    cases E
    have J:=Q.trans (t.trans D)
    exact HQ hf O hw (Gk (Jj hf (v:=_) O) (Gk (Jj hf (v:=_) O) HC)) O J ⟨O,(BA _),(BA _),k⟩
theorem Jl (hs:St S L h) {b:Int}(c:AB b) {a:Value}{c1_:C7}(j:Pt S h BO a c1_) {r:AD}(E:CF N c1_ b=some r):
 Bf Tryz.prog 116 #[.int .i64 b,a] S h (λv S' h'=>v= .agg #[.int .i64 r.Lo,.int .i64 r.Hi]∧AD.ok r∧St S' (L) h'):=by
 refine Ab (l:=[.int .i64 b,a]) 26 Tryz.func116 O Tryz.ntmps116 O λB=>?_
 rw[CF] at E
 refine WF.seq (WF.rl (LF.al Ee O hs λb1 h2 k J=>LF.nil (kp [3,0,1] O) (WF.seq (WF.rc (.inl O) k ?_))))
 have K:=j.mono J
 refine QF.ld Ai k.1 O K Im (λe=>by cases e) O λv6 M=>QF.mv O O ?_
 obtain⟨m,z,E⟩:=bd E
 refine GE (v:= .tuple #[.int .i64 m.1,.int .i64 m.2]) (Ψ:=AB m.1∧AB m.2) O O O Um O (λh' o=>(Jb (St.all h') (M.mono (o.all k.1)) c (iq (n:=0) O) z).mono λ_ _ _ _ p=>⟨p.1,⟨p.2.1,p.2.2.1⟩⟩) λQ=>?_
 obtain⟨A,U⟩:=Q
 refine QF.mv O O (QF.ext O O O (QF.ext O O O (QF.as_ O O (QF.as_ O O (Ak (kp [4,3,0,1] O) λV d s=>WF.seq (WF.rc (.inl O) d ?_))))))
 have t:=K.mono s
 refine QF.ld Ai d.1 O t Im (λe=>by cases e) O λW C=>QF.mv O O (QF.fa O t C7.f_Den Ip O λX D=>QF.ldi Ai d.1 O D AL O λY=>QF.subw O O O ?_)
 obtain⟨g,u,E⟩:=bd E
 refine GE (v:= .tuple #[.int .i64 g.1,.int .i64 g.2]) (Ψ:=AB g.1∧AB g.2) O O O Um O (λh' o=>(Jb (St.all h') (C.mono (o.all d.1)) c (BA _) u).mono λ_ _ _ _ p=>⟨p.1,⟨p.2.1,p.2.2.1⟩⟩) λF=>?_
 obtain⟨G,Z⟩:=F
 refine QF.mv O O (QF.ext O O O (QF.ext O O O (QF.as_ O O (QF.as_ O O (Ak (kp [6,4,3] O) λab w H=>WF.seq (WF.rl (LF.q 3 (QF.mv O O (QF.mv O O (QF.bld (cs:=[.int .i64 m.1,.int .i64 g.1]) HD O O O (AG (Ad (vs:=[.int .i64 m.1,.int .i64 g.1]) O O O O Ag O w .head O λac i I=>?_))))))))))))
 refine LF.nil (kp [3] O) (WF.ret (λaa ww hf hw=>?_))
 have x:=i.drop .head
 cases E
 have y:=J.trans (s.trans (H.trans I))
 exact HQ hf O hw (Gk (LD hf hw i O mh Ag O) HC) O y ⟨O,⟨A,G⟩,x⟩
theorem Ks {s:Nat}{p0_w:Ac}{C:Value}{D:Value}{u:Value}{F:Value}{G:Value}{H:Value}{I:Value}{J:Value}{g:Value}{j:Value}{k:Value}{d:Value}(hs:St S (Bx s 106 [.string p0_w.b.Name,C,.int .i64 p0_w.b.Cells,D,u,F,G,H,I,J,.int .i64 p0_w.b.Err,.int .i64 p0_w.h.Hour,g,j,k,d]::OS AF 51 g p0_w.h.Vol::OS BS 93 j p0_w.h.Queue::OS AZ 97 k p0_w.h.Links::OS AF 51 d p0_w.peaks::L) h) (fp:p0_w.b.Name.size≤maxLen) (bl:Sl S h AV.str C p0_w.b.Owners) (fq:AB p0_w.b.Cells) (X:Sl S h BO D p0_w.b.Places) (bm:Sl S h A9 u p0_w.b.Links) (fr:Sl S h EK F p0_w.b.Towns) (fs:Sl S h Di G p0_w.b.Gauges) (ft:Sl S h Et H p0_w.b.Roads) (fu:Sl S h Cc I p0_w.b.Shelters) (fv:Sl S h AV.int J p0_w.b.Room) (dr:AB p0_w.b.Err) (ds:AB p0_w.h.Hour) {z:Int}(j4:AB z) {M:Value}{Q:(List Gl)}(af:Sl S h GL M Q) {r:(List AO)}(E:FT N p0_w z Q=some r):
 Bf Tryz.prog 53 #[.pointer (some ⟨s,0,none⟩),.int .i64 z,M] S h (λv S' h'=>St S' (OS Bv 181 v r::Bx s 106 [.string p0_w.b.Name,C,.int .i64 p0_w.b.Cells,D,u,F,G,H,I,J,.int .i64 p0_w.b.Err,.int .i64 p0_w.h.Hour,g,j,k,d]::OS AF 51 g p0_w.h.Vol::OS BS 93 j p0_w.h.Queue::OS AZ 97 k p0_w.h.Links::OS AF 51 d p0_w.peaks::L) h'):=by
 refine Ab (l:=[.pointer (some ⟨s,0,none⟩),.int .i64 z,M]) 210 Tryz.func53 O Tryz.ntmps53 O λB=>?_
 rw[FT] at E
 refine WF.seq (WF.rp (.inl O) (QF.as_ O O (AA (kp [0,1,2] O) (WF.seq (WF.rp (.inl O) (QF.as_ O O (AA (kp [7,0,1,2] O) (WF.seq (WF.seq (WF.rp (.inl O) (QF.mv O O (QF.len O af TQ O λb1=>QF.mv O O ?_))))))))))))
 refine AA (kp [19,18,17,7,0,1] O) (WF.blockJ (λa w=>∃(v2:Value) (l3:List AO),IV B S h (210,[]) a w [(0,.pointer (some ⟨s,0,none⟩)),(1,.int .i64 z),(7,v2)] (OS Bv 181 v2 l3::Bx s 106 [.string p0_w.b.Name,C,.int .i64 p0_w.b.Cells,D,u,F,G,H,I,J,.int .i64 p0_w.b.Err,.int .i64 p0_w.h.Hour,g,j,k,d]::OS AF 51 g p0_w.h.Vol::OS BS 93 j p0_w.h.Queue::OS AZ 97 k p0_w.h.Links::OS AF 51 d p0_w.peaks::L) λ_ _=>BE N p0_w z l3=some r) ?_ ?_)
 ·
  refine WF.loopF (λn1=>λa w=>∃(v8:Value) (l9:List AO) (az:Int),IV B S h (210,[]) a w [(18,.int .i64 (↑Q.length:Int)),(17,M),(0,.pointer (some ⟨s,0,none⟩)),(1,.int .i64 z),(7,v8),(19,.int .i64 az)] (OS Bv 181 v8 l9::Bx s 106 [.string p0_w.b.Name,C,.int .i64 p0_w.b.Cells,D,u,F,G,H,I,J,.int .i64 p0_w.b.Err,.int .i64 p0_w.h.Hour,g,j,k,d]::OS AF 51 g p0_w.h.Vol::OS BS 93 j p0_w.h.Queue::OS AZ 97 k p0_w.h.Links::OS AF 51 d p0_w.peaks::L) λ_ _=>AB az∧Ax N p0_w z Q (BE N p0_w z) n1 l9 az=some r) N ?_ ?_ ?_
  ·
   intro aa ww hf hw
   have fw:=hs.nil Bv 181
   exact⟨(.slice none 0 0),([]),0,_,_,hf.sub (kp [18,17,0,1,7,19] O),hw,fw,(Bc.refl S h),(iq (n:=0) O),E⟩
  ·
   rintro aa ww ⟨_,_,_,_,_,_,_,_,_,_,E⟩
   rw[Ax] at E;cases E
  ·
   rintro n1 aa ww ⟨v8,l9,az,j5,j6,hf,hw,bp,bn,m7,E⟩
   refine WF.run ?_ hf hw
   clear hf hw ww aa
   rw[Ax] at E
   refine WF.seq (WF.rp (.inl O) (QF.lss O O O (AA (kp [20,18,17,0,1,7,19] O) (WF.seq (WF.if_ O (λdt=>?_) (λdt=>?_))))))
   ·
    have E:=A0 dt E
    refine WF.skip (WF.seq (WF.blockJ (λa w=>∃(cw:Value) (cx:List AO),IV B j5 j6 (210,[]) a w [(18,.int .i64 (↑Q.length:Int)),(17,M),(0,.pointer (some ⟨s,0,none⟩)),(1,.int .i64 z),(19,.int .i64 az),(7,cw)] (OS Bv 181 cw cx::Bx s 106 [.string p0_w.b.Name,C,.int .i64 p0_w.b.Cells,D,u,F,G,H,I,J,.int .i64 p0_w.b.Err,.int .i64 p0_w.h.Hour,g,j,k,d]::OS AF 51 g p0_w.h.Vol::OS BS 93 j p0_w.h.Queue::OS AZ 97 k p0_w.h.Links::OS AF 51 d p0_w.peaks::L) λ_ _=>D1 N az (Ax N p0_w z Q (BE N p0_w z) n1) cx=some r) ?_ ?_))
    ·
     refine WF.seq (WF.rl (LF.q 2 ?_))
     have j7:=af.mono' bn
     obtain⟨ac,fx,E⟩:=bd E
     refine QF.ixe O O j7 TQ fx O λm8 j8=>QF.ld Af bp.1 O j8 TE (λe=>by cases e) O λm9 j9=>AG (LF.al Wl O bp λcy na fy a0=>?_)
     have ka:=j9.mono a0
     obtain⟨rfl,⟨kb,fz,kc,du⟩⟩:=GL.ex ka
     refine Ad (vs:=[.int .i64 ac.Place,.int .i64 ac.Owner,.int .i64 ac.Litres,.int .i64 ac.To]) O O O O TE O fy .head O λnd av bo=>LF.nil (kp [9,18,17,0,1,7,19] O) (WF.seq (WF.seq (WF.rc (.inr ⟨mo,by kernel_rfl⟩) av (QF.fao O T5 O (AI Ai av O mh O AL O (QF.mv O O (QF.neq O O O (QF.mv O O ?_))))))))
     obtain⟨dv,ag,E⟩:=bd E
     refine QF.cutv 11 38 (.bool dv) ?_ ?_
     ·
      cases f0:(decide (ac.Place≠z))
      ·
       have ag:=A3 f0 ag
       refine QF.gy O O O (QF.fao O T4 O (QF.gy O O O (AI Ai av O mh O AL O (QF.gy O O O (QF.mv O O (QF.gy O O O (D8 O O (QF.gy O O O (QF.fao O Fl O (QF.gy O O O (QF.fao O M7 O (QF.gy O O O (AI Ai av O (mt (mt mh)) O RJ O ?_)))))))))))))
       refine QF.gy O O O ?_
       have f1:=bn.trans (a0.trans bo)
       have kd:=bl.mono' f1
       refine QF.len O kd Pf O λke=>QF.gy O O O ?_
       obtain⟨ne,f2,ag⟩:=bd ag
       refine Aa O O O QL O (λh' o=>GU (St.all h') fz (Jk ke) f2) (QF.gy O O O (QF.not O O (QF.pick O O O ?_)))
       cases ag
       exact AH O
      ·
       have ag:=A0 f0 ag
       cases ag
       exact AK O O
     refine QF.mv O O (QF.cutv 4 43 (.bool (dv||(decide (ac.Litres≤0)))) ?_ ?_)
     ·
      cases nf:dv
      ·exact QF.gy O O O (QF.fao O P1 O (QF.gy O O O (AI Ai av O mh O AL O (QF.gy O O O (QF.leq O O O (QF.pick O O O (AH O)))))))
      ·exact AK O O
     refine Ak (kp [43,9,18,17,0,1,7,19] O) λng Y bq=>WF.if_ O (λdw=>?_) (λdw=>?_)
     ·
      have E:=A0 dw E
      refine WF.exit O (λaa ww hf hw=>?_)
      have f3:=Y.sel [1,1,1,1,1,1] 1 O
      have f4:=a0.trans (bo.trans bq)
      exact⟨v8,l9,_,_,hf.sub (kp [18,17,0,1,19,7] O),hw,f3,f4,E⟩
     ·
      have E:=A3 dw E
      refine WF.skip (WF.seq (WF.seq (WF.rc (.inr ⟨mo,by kernel_rfl⟩) Y (QF.fao O Lt O (AI Ai Y O mh O AL O (QF.neq O O O (QF.mv O O ?_)))))))
      obtain⟨kf,Z,E⟩:=bd E
      refine QF.cutv 33 80 (.bool kf) ?_ ?_
      ·
       cases f5:(decide (ac.To≠(-1)))
       ·
        have Z:=A3 f5 Z
        cases Z
        exact AK O O
       ·
        have Z:=A0 f5 Z
        refine QF.gy O O O (QF.fao O Lt O (QF.gy O O O (AI Ai Y O mh O AL O (QF.gy O O O (QF.mv O O (QF.gy O O O (D8 O O (QF.gy O O O (QF.fao O Fl O (QF.gy O O O (QF.fao O DW O (QF.gy O O O (AI Ai Y O (mt (mt mh)) O Ff O ?_)))))))))))))
        refine QF.gy O O O ?_
        have f6:=bn.trans (a0.trans (bo.trans bq))
        have kg:=X.mono' f6
        refine QF.len O kg E5 O λkh=>QF.gy O O O ?_
        obtain⟨ki,f7,Z⟩:=bd Z
        refine Aa O O O QL O (λh' o=>GU (St.all h') du (Jk kh) f7) (QF.gy O O O (QF.not O O (QF.gy O O O (QF.mv O O ?_))))
        obtain⟨kj,ab,Z⟩:=bd Z
        refine QF.cutv 21 79 (.bool kj) ?_ ?_
        ·
         cases f8:(!ki)
         ·
          have ab:=A3 f8 ab
          refine QF.gy O O O (QF.mv O O (QF.gy O O O (D8 O O (QF.gy O O O (QF.fao O Fl O (QF.gy O O O (QF.fao O DW O (QF.gy O O O (AI Ai Y O (mt (mt mh)) O Ff O (QF.gy O O O (QF.fao O Lt O (QF.gy O O O (AI Ai Y O mh O AL O ?_)))))))))))))
          refine QF.gy O O O ?_
          have cz:=bn.trans (a0.trans (bo.trans bq))
          have kk:=X.mono' cz
          obtain⟨nh,f9,ab⟩:=bd ab
          refine QF.ixe O O kk E5 f9 O λni kl=>QF.gy O O O (QF.fa O kl GG JO O λnj km=>QF.gy O O O (QF.ldi Ai Y.1 O km AL O λnk=>QF.gy O O O (QF.mv O O (QF.gy O O O (D8 O O (QF.gy O O O (QF.fao O Fl O (QF.gy O O O (QF.fao O DW O (QF.gy O O O ?_))))))))))
          refine AI Ai Y O (mt (mt mh)) O Ff O (QF.gy O O O (QF.mv O O (QF.gy O O O ?_)))
          have kn:=X.mono' cz
          obtain⟨nl,ga,ab⟩:=bd ab
          refine QF.ixe O O kn E5 ga O λnm ko=>QF.gy O O O (QF.fa O ko GG JO O λnn kq=>QF.gy O O O (QF.ldi Ai Y.1 O kq AL O λno=>QF.gy O O O (QF.neq O O O (QF.gy O O O (QF.pick O O O ?_)))))
          cases ab
          exact AH O
         ·
          have ab:=A0 f8 ab
          cases ab
          exact AK O O
        refine QF.pick O O O ?_
        cases Z
        exact AH O
      refine Ak (kp [80,9,18,17,0,1,7,19] O) λkr br gb=>WF.if_ O (λdx=>?_) (λdx=>?_)
      ·
       have E:=A0 dx E
       refine WF.exit O (λaa ww hf hw=>?_)
       have gc:=br.sel [1,1,1,1,1,1] 1 O
       have ge:=a0.trans (bo.trans (bq.trans gb))
       exact⟨v8,l9,_,_,hf.sub (kp [18,17,0,1,19,7] O),hw,gc,ge,E⟩
      ·
       have E:=A3 dx E
       refine WF.skip (WF.rl (LF.q 5 (QF.mv O O (QF.fao O Lt O (AI Af br O mh O AL O (QF.mkf O O O (QF.bld (cs:=[.int .i64 ac.To,.int .i64 0,.int .i64 0,.func (.func 108) #[] #[.pointer (some ⟨cy,0,none⟩)]]) NF O O O (AG ?_))))))))
       obtain⟨ks,gf,kt,ku⟩:=br.pubb (r:=GL) (x:=ac) .head ⟨O,⟨kb,fz,kc,du⟩⟩
       have gg:Rd ks kr (AV.fn Tryz.prog (λx:Int=>([.int .i64 x]:List Value)) (λx:Int=>AB x) (λy:AD=> .agg #[.int .i64 y.Lo,.int .i64 y.Hi]) (λy:AD=>AD.ok y)) (.func (.func 108) #[] #[(.pointer (some ⟨cy,0,none⟩))]) (λx=>Ca N ac x):=JV 108 #[(.pointer (some ⟨cy,0,none⟩))] Xx λS' h' s' e' L hs x y h1 h2=>(Jp hs h1 (ku.mono'' s' e') h2).mono λ_ _ _ _ p=>p
       refine Hd (cs:=[.int .i64 ac.To,.int .i64 0,.int .i64 0,(.func (.func 108) #[] #[(.pointer (some ⟨cy,0,none⟩))])]) I0 O O O O O O O gf λnp nq gh gi=>?_
       obtain⟨gj,E⟩:=Q0 E
       have kv:=gg.mono gi
       refine LF.app2 (r:=Bv) (l:=l9) (xs:=([(⟨ac.To,0,0,(λx=>Ca N ac x)⟩:AO)]:List AO)) O O I0 O mh ⟨_,_,O,⟨_,O,du,(iq (n:=0) O),(iq (n:=0) O),kv⟩,O⟩ O O gj O gh (λ_=>(.tail .head)) λkw nr gk kx=>?_
       have gl:=gk.drop .head
       refine LF.q 1 (QF.as_ O O (AG (LF.nil (kp [7,18,17,0,1,19] O) (WF.nil (λaa ww hf hw=>?_)))))
       have gm:=a0.trans (bo.trans (bq.trans (gb.trans (kt.trans (gi.trans kx)))))
       exact⟨kw,(l9++([(⟨ac.To,0,0,(λx=>Ca N ac x)⟩:AO)]:List AO)),_,_,hf.sub (kp [18,17,0,1,19,7] O),hw,gl,gm,E⟩
    ·
     rintro aa ww ⟨cw,cx,ky,kz,hf,hw,dy,gp,E⟩
     refine WF.run ?_ hf hw
     clear hf hw ww aa
     rw[D1] at E
     refine WF.rp (.inl O) (QF.addw O O O (QF.mv O O (AA (kp [19,18,17,0,1,7] O) (WF.nil (λaa ww hf hw=>?_)))))
     exact⟨cw,cx,(Aw (az+1)),_,_,hf.sub (kp [18,17,0,1,7,19] O),hw,dy,(bn.trans gp),(BA _),E⟩
   ·
    have E:=A3 dt E
    refine WF.exit O (λaa ww hf hw=>?_)
    exact⟨v8,l9,_,_,hf.sub (kp [0,1,7] O),hw,bp,bn,E⟩
 ·
  rintro aa ww ⟨v2,l3,bt,bu,hf,hw,bv,bw,E⟩
  refine WF.run ?_ hf hw
  clear hf hw ww aa
  rw[BE] at E
  refine WF.seq (WF.seq (WF.rp (.inl O) (QF.mv O O (D8 O O (QF.fao O Fl O (QF.fao O FP O (AI Af bv O (mt mh) O Ho O ?_)))))))
  have c0:=bm.mono' bw
  refine QF.len O c0 GO O λk0=>QF.mv O O (AA (kp [95,94,93,0,1,7] O) (WF.blockJ (λa w=>∃(a9:Value) (ao:List AO),IV B bt bu (210,[]) a w [(0,.pointer (some ⟨s,0,none⟩)),(1,.int .i64 z),(7,a9)] (OS Bv 181 a9 ao::Bx s 106 [.string p0_w.b.Name,C,.int .i64 p0_w.b.Cells,D,u,F,G,H,I,J,.int .i64 p0_w.b.Err,.int .i64 p0_w.h.Hour,g,j,k,d]::OS AF 51 g p0_w.h.Vol::OS BS 93 j p0_w.h.Queue::OS AZ 97 k p0_w.h.Links::OS AF 51 d p0_w.peaks::L) λ_ _=>BL N p0_w z ao=some r) ?_ ?_))
  ·
   refine WF.loopF (λn4=>λa w=>∃(ae:Value) (V:List AO) (W:Int),IV B bt bu (210,[]) a w [(94,.int .i64 (↑p0_w.b.Links.length:Int)),(93,u),(0,.pointer (some ⟨s,0,none⟩)),(1,.int .i64 z),(7,ae),(95,.int .i64 W)] (OS Bv 181 ae V::Bx s 106 [.string p0_w.b.Name,C,.int .i64 p0_w.b.Cells,D,u,F,G,H,I,J,.int .i64 p0_w.b.Err,.int .i64 p0_w.h.Hour,g,j,k,d]::OS AF 51 g p0_w.h.Vol::OS BS 93 j p0_w.h.Queue::OS AZ 97 k p0_w.h.Links::OS AF 51 d p0_w.peaks::L) λ_ _=>AB W∧Aq N p0_w z (BL N p0_w z) n4 V W=some r) N ?_ ?_ ?_
   ·
    intro aa ww hf hw
    exact⟨v2,l3,0,_,_,hf.sub (kp [94,93,0,1,7,95] O),hw,bv,(Bc.refl bt bu),(iq (n:=0) O),E⟩
   ·
    rintro aa ww ⟨_,_,_,_,_,_,_,_,_,_,E⟩
    rw[Aq] at E;cases E
   ·
    rintro n4 aa ww ⟨ae,V,W,aw,gq,hf,hw,a1,bx,k1,E⟩
    refine WF.run ?_ hf hw
    clear hf hw ww aa
    rw[Aq] at E
    refine WF.seq (WF.rp (.inl O) (QF.lss O O O (AA (kp [96,94,93,0,1,7,95] O) (WF.seq (WF.if_ O (λbz=>?_) (λbz=>?_))))))
    ·
     have E:=A0 bz E
     refine WF.skip (WF.seq (WF.blockJ (λa w=>∃(ba:Value) (bb:List AO),IV B aw gq (210,[]) a w [(94,.int .i64 (↑p0_w.b.Links.length:Int)),(93,u),(0,.pointer (some ⟨s,0,none⟩)),(1,.int .i64 z),(95,.int .i64 W),(7,ba)] (OS Bv 181 ba bb::Bx s 106 [.string p0_w.b.Name,C,.int .i64 p0_w.b.Cells,D,u,F,G,H,I,J,.int .i64 p0_w.b.Err,.int .i64 p0_w.h.Hour,g,j,k,d]::OS AF 51 g p0_w.h.Vol::OS BS 93 j p0_w.h.Queue::OS AZ 97 k p0_w.h.Links::OS AF 51 d p0_w.peaks::L) λ_ _=>Bu N W (Aq N p0_w z (BL N p0_w z) n4) bb=some r) ?_ ?_))
     ·
      refine WF.seq (WF.rl (LF.q 3 (QF.mv O O ?_)))
      have gr:=c0.mono' bx
      obtain⟨c,dz,E⟩:=bd E
      refine QF.ixe O O gr GO dz O λk2 gs=>QF.ld Af a1.1 O gs Du (λe=>by cases e) O λk3 gu=>AG (LF.al K8 O a1 λK k4 d0 ax=>LF.q 1 (QF.as_ O O (AG ?_)))
      have gv:=gu.mono ax
      obtain⟨b0,b2,b3,rfl,b4,b5,ay,ap,bc,be,bf,b6,b7,b8,b9,ca,cb,cc,cd,ce,cf,aq⟩:=A9.ex gv
      refine LF.st (vs:=[.string c.Name,.int .i64 c.Kind,.int .i64 c.From,.int .i64 c.To,b0,b2,b3,.int .i64 c.Positions,.int .i64 c.Speed,.int .i64 c.Leak,.int .i64 c.Crest,.int .i64 c.Num,.int .i64 c.Den,.int .i64 c.Prime,.int .i64 c.Break,.int .i64 c.BackNum,.int .i64 c.BackDen,.int .i64 c.Delay]) (cs':=[.string c.Name,.int .i64 c.Kind,.int .i64 c.From,.int .i64 c.To,b0,b2,b3,.int .i64 c.Positions,.int .i64 c.Speed,.int .i64 c.Leak,.int .i64 c.Crest,.int .i64 c.Num,.int .i64 c.Den,.int .i64 c.Prime,.int .i64 c.Break,.int .i64 c.BackNum,.int .i64 c.BackDen,.int .i64 c.Delay]) O O O (AC O (AC O (AC O (AC O (AC bc.one (AC be.one (AC bf.one (AC O (AC O (AC O (AC O (AC O (AC O (AC O (AC O (AC O (AC O (AC O Eo)))))))))))))))))) Du O d0 .head O O λc1 t am=>LF.nil (kp [10,11,94,93,0,1,7,95] O) (WF.block (WF.seq (WF.rp (.inl O) (QF.fao O GV O (AI Af t O mh O AL O (QF.mv O O (QF.eql O O O (QF.mv O O (QF.cutv 4 109 (.bool ((decide (c.From=z))&&(decide (c.Kind≠4)))) ?_ ?_)))))))))
      ·
       cases k5:(decide (c.From=z))
       ·exact AK O O
       ·exact QF.gy O O O (QF.fao O Do O (QF.gy O O O (AI Af t O mh O AL O (QF.gy O O O (QF.neq O O O (QF.pick O O O (AH O)))))))
      refine QF.as_ O O (AA (kp [100,10,11,94,93,0,1,7,95] O) (WF.if_ O (λcg=>?_) (λcg=>?_)))
      ·
       have E:=A0 cg E
       refine WF.seq (WF.rl (LF.q 9 (QF.mv O O (D8 O O (QF.fao O EE O (QF.fao O Gv O (AI Af t O (mt (mt mh)) O JZ O (QF.mv O O ?_))))))))
       obtain⟨k6,d1,E⟩:=bd E
       refine QF.ixoe t (mt (mt (mt (mt (mt mh))))) O O J2 d1 O λk7 d2=>?_
       obtain⟨U,d3,E⟩:=bd E
       have gw:=t.epAt (mt (mt (mt (mt (mt mh))))) d3 EO.id d2
       refine QF.ld Af (λ_ x=>x) O gw Gj (λe=>by cases e) O λk8 gx=>QF.bld (cs:=[.int .i64 0,.int .i64 0]) HD O O O (AG (LF.al RE O t λar k9 d4 ch=>LF.al Ee O d4 λau la d5 ci=>?_))
       have gz:=gx.mono (ch.trans ci)
       obtain⟨rfl,⟨g0,g1,g2,g3,g4⟩⟩:=AZ.ex gz
       refine Ad (vs:=[.int .i64 U.Pos.Lo,.int .i64 U.Pos.Hi,.int .i64 U.Target,.int .i64 U.Open.Lo,.int .i64 U.Open.Hi]) O O O O Gj O d5 (.tail .head) O λlb d6 c2=>Ad (vs:=[.int .i64 0,.int .i64 0]) O O O O Ag O d6 .head O λc3 ad c4=>LF.nil (kp [13,12,11,94,93,0,1,7,95] O) (WF.seq (WF.seq (WF.rp (.inl O) (QF.fao O E6 O (AI Af ad O (mt (mt mh)) O AL O (QF.neq O O O (AA (kp [121,13,12,11,94,93,0,1,7,95] O) (WF.cut (λa w=>∃(ah:Int) (ai:Int),IV B aw c3 (210,[]) a w [(13,.pointer (some ⟨au,0,none⟩)),(12,.pointer (some ⟨ar,0,none⟩)),(11,.pointer (some ⟨K,0,none⟩)),(94,.int .i64 (↑p0_w.b.Links.length:Int)),(93,u),(0,.pointer (some ⟨s,0,none⟩)),(1,.int .i64 z),(7,ae),(95,.int .i64 W)] (Bx au 51 [.int .i64 ah,.int .i64 ai]::Bx ar 97 [.int .i64 U.Pos.Lo,.int .i64 U.Pos.Hi,.int .i64 U.Target,.int .i64 U.Open.Lo,.int .i64 U.Open.Hi]::Bx K 102 [.string c.Name,.int .i64 c.Kind,.int .i64 c.From,.int .i64 c.To,b0,b2,b3,.int .i64 c.Positions,.int .i64 c.Speed,.int .i64 c.Leak,.int .i64 c.Crest,.int .i64 c.Num,.int .i64 c.Den,.int .i64 c.Prime,.int .i64 c.Break,.int .i64 c.BackNum,.int .i64 c.BackDen,.int .i64 c.Delay]::OS Bv 181 ae V::Bx s 106 [.string p0_w.b.Name,C,.int .i64 p0_w.b.Cells,D,u,F,G,H,I,J,.int .i64 p0_w.b.Err,.int .i64 p0_w.h.Hour,g,j,k,d]::OS AF 51 g p0_w.h.Vol::OS BS 93 j p0_w.h.Queue::OS AZ 97 k p0_w.h.Links::OS AF 51 d p0_w.peaks::L) λ_ _=>AB ah∧AB ai∧EZ N V c U (Bu N W (Aq N p0_w z (BL N p0_w z) n4)) ah ai=some r) ?_ ?_))))))))
       ·
        refine WF.if_ O (λcj=>?_) (λcj=>?_)
        ·
         have E:=A0 cj E
         refine Nr 8 mo (by kernel_rfl) O (QF.mv O O (D8 O O (QF.fao O Fk O (AI Af ad O (mt (mt (mt (mt mh)))) O Gn O (QF.fao O E6 O (AI Af ad O (mt (mt mh)) O AL O ?_))))))
         obtain⟨lc,d7,E⟩:=bd E
         refine QF.ixoe ad (mt (mt (mt (mt (mt (mt (mt (mt mh)))))))) O O FM d7 O λle d8=>?_
         obtain⟨bg,d9,E⟩:=bd E
         have g5:=ad.epAt (mt (mt (mt (mt (mt (mt (mt (mt mh)))))))) d9 EO.id d8
         refine QF.ld Af (λ_ x=>x) O g5 Ag (λe=>by cases e) O λlf g6=>AG ?_
         obtain⟨rfl,⟨g7,g8⟩⟩:=AF.ex g6
         refine Ad (vs:=[.int .i64 bg.Lo,.int .i64 bg.Hi]) O O O O Ag O ad .head O λlg ea g9=>LF.nil (kp [13,12,11,94,93,0,1,7,95] O) (WF.nil (λaa ww hf hw=>?_))
         exact⟨bg.Lo,bg.Hi,_,_,hf.sub (kp [13,12,11,94,93,0,1,7,95] O),hw,ea,g9,g7,g8,E⟩
        ·
         have E:=A3 cj E
         refine WF.skip (WF.nil (λaa ww hf hw=>?_))
         exact⟨0,0,_,_,hf.sub (kp [13,12,11,94,93,0,1,7,95] O),hw,ad,(Bc.refl aw c3),(iq (n:=0) O),(iq (n:=0) O),E⟩
       ·
        rintro aa ww ⟨ah,ai,lh,ha,hf,hw,a2,c5,hc,hd,E⟩
        refine WF.run ?_ hf hw
        clear hf hw ww aa
        rw[EZ] at E
        refine WF.rl (LF.q 7 (QF.mv O O (QF.fao O E6 O (AI Af a2 O (mt (mt mh)) O AL O (QF.fao O Kg O (AI Af a2 O (mt (mt mh)) O AL O (QF.mkf O O O (QF.bld (cs:=[.int .i64 c.To,.int .i64 c.Delay,.int .i64 2,.func (.func 109) #[] #[.pointer (some ⟨K,0,none⟩),.pointer (some ⟨ar,0,none⟩),.pointer (some ⟨au,0,none⟩)]]) NF O O O (AG ?_)))))))))
        have a3:=am.trans (ch.trans (ci.trans (c2.trans (c4.trans c5))))
        have he:=bc.mono' a3
        have hg:=be.mono' a3
        have hi:=bf.mono' a3
        obtain⟨li,eb,hj,hk⟩:=a2.pubb (r:=A9) (x:=c) (.tail (.tail .head)) ⟨_,_,_,O,b4,b5,ay,ap,he,hg,hi,b6,b7,b8,b9,ca,cb,cc,cd,ce,cf,aq⟩
        obtain⟨lj,ec,c6,hl⟩:=eb.pubb (r:=AZ) (x:=U) (.tail .head) ⟨O,⟨g0,g1,g2,g3,g4⟩⟩
        obtain⟨hm,ed,ck,hn⟩:=ec.pubb (r:=AF) (x:=(⟨ah,ai⟩:AD)) .head ⟨O,⟨hc,hd⟩⟩
        have ho:=hk.mono (c6.trans ck)
        have hp:=hl.mono ck
        have ee:Rd hm ha (AV.fn Tryz.prog (λx:Int=>([.int .i64 x]:List Value)) (λx:Int=>AB x) (λy:AD=> .agg #[.int .i64 y.Lo,.int .i64 y.Hi]) (λy:AD=>AD.ok y)) (.func (.func 109) #[] #[(.pointer (some ⟨K,0,none⟩)),(.pointer (some ⟨ar,0,none⟩)),(.pointer (some ⟨au,0,none⟩))]) (λx=>CZ N c U (⟨ah,ai⟩:AD) x):=JV 109 #[(.pointer (some ⟨K,0,none⟩)),(.pointer (some ⟨ar,0,none⟩)),(.pointer (some ⟨au,0,none⟩))] Xw λS' h' s' e' L hs x y h1 h2=>(Jo hs h1 (ho.mono'' s' e') (hp.mono'' s' e') (hn.mono'' s' e') h2).mono λ_ _ _ _ p=>p
        refine Hd (cs:=[.int .i64 c.To,.int .i64 c.Delay,.int .i64 2,(.func (.func 109) #[] #[(.pointer (some ⟨K,0,none⟩)),(.pointer (some ⟨ar,0,none⟩)),(.pointer (some ⟨au,0,none⟩))])]) I0 O O O O O O O ed λll lm ef c7=>?_
        obtain⟨eg,E⟩:=Q0 E
        have hq:=ee.mono c7
        refine LF.app2 (r:=Bv) (l:=V) (xs:=([(⟨c.To,c.Delay,2,(λx=>CZ N c U (⟨ah,ai⟩:AD) x)⟩:AO)]:List AO)) O O I0 O mh ⟨_,_,O,⟨_,O,ap,aq,(iq (n:=2) O),hq⟩,O⟩ O O eg O ef (λ_=>(.tail .head)) λht lo eh hu=>?_
        have ei:=eh.drop .head
        refine LF.q 1 (QF.as_ O O (AG (LF.nil (kp [7,94,93,0,1,95] O) (Ap (WF.nil (λaa ww hf hw=>?_))))))
        have ej:=ax.trans (am.trans (ch.trans (ci.trans (c2.trans (c4.trans (c5.trans (hj.trans (c6.trans (ck.trans (c7.trans hu))))))))))
        exact⟨ht,(V++([(⟨c.To,c.Delay,2,(λx=>CZ N c U (⟨ah,ai⟩:AD) x)⟩:AO)]:List AO)),_,_,hf.sub (kp [94,93,0,1,95,7] O),hw,ei,ej,E⟩
      ·
       have E:=A3 cg E
       refine WF.seq (WF.rp (.inl O) (QF.fao O GV O (AI Af t O mh O AL O (QF.mv O O (QF.eql O O O (QF.as_ O O (AA (kp [139,11,94,93,0,1,7,95] O) (WF.if_ O (λcl=>?_) (λcl=>?_)))))))))
       ·
        have E:=A0 cl E
        refine WF.seq ?_
        obtain⟨lp,ek,E⟩:=bd E
        obtain⟨aj,el,E⟩:=bd E
        refine QQ (m:=[(11,.pointer (some ⟨K,0,none⟩)),(94,.int .i64 (↑p0_w.b.Links.length:Int)),(93,u),(0,.pointer (some ⟨s,0,none⟩)),(1,.int .i64 z),(7,ae),(95,.int .i64 W)]) 9 (λi v hh=>match i with|0=>v= .pointer (some ⟨s,0,none⟩)|1=>v= .pointer (some ⟨s,0,none⟩)|2=>v= .pointer (some ⟨s,15,none⟩)|3=>v=d|4=>v= .pointer (some ⟨K,3,none⟩)|5=>v= .int .i64 c.To∧AB c.To|6=>EP d (c.To.toNat*(AF).sz+0) v|7=>Rd aw hh AF v aj|8=>Od c1 51 [.int .i64 0,.int .i64 0] v hh|_=>False) [[],[(0,144)],[(1,145)],[(2,146)],[],[(4,148)],[(3,147),(5,149)],[(6,150)],[]] [(7,151),(8,14)] mo (by kernel_rfl) [11,94,93,0,1,7,95] O (by kernel_rfl) (by kernel_rfl) (by kernel_rfl) (kp [11,94,93,0,1,7,95] O) (λi v h1 h2 o1 o2 hr=>?_) ?_ ?_
        ·match i,hr with
          |0,hr=>exact hr
          |1,hr=>exact hr
          |2,hr=>exact hr
          |3,hr=>exact hr
          |4,hr=>exact hr
          |5,hr=>exact hr
          |6,hr=>exact hr
          |7,hr=>exact Rd.mono hr (o2.ext λb hb=>Nat.lt_of_lt_of_le (t.1 b hb) o1.siz)
          |8,hr=>exact hr.mono o2
          |_+9,hr=>exact hr.elim
        ·
         refine CG.cons O ?_ ?_
         ·
          intro mq hh o
          have hsN:=o.st t
          exact LF.q 1 (QF.mv O O (AG (AM (BX.refl _) O)))
         refine CG.cons O ?_ ?_
         ·
          intro mq hh o
          intro lq hv
          have hsN:=o.st t
          cases hv
          exact LF.q 1 (D8 O O (AG (AM (BX.refl _) O)))
         refine CG.cons O ?_ ?_
         ·
          intro mq hh o
          intro lr hx
          have hsN:=o.st t
          cases hx
          exact LF.q 1 (QF.fao O Fk O (AG (AM (BX.refl _) O)))
         refine CG.cons O ?_ ?_
         ·
          intro mq hh o
          intro ls hy
          have hsN:=o.st t
          cases hy
          exact LF.q 1 (AI Af hsN O (mt (mt mh)) O Gn O (AG (AM (BX.refl _) O)))
         refine CG.cons O ?_ ?_
         ·
          intro mq hh o
          have hsN:=o.st t
          exact LF.q 1 (QF.fao O E6 O (AG (AM (BX.refl _) O)))
         refine CG.cons O ?_ ?_
         ·
          intro mq hh o
          intro lt hz
          have hsN:=o.st t
          cases hz
          exact LF.q 1 (AI Af hsN O mh O AL O (AG (AM (BX.refl _) ⟨O,ap⟩)))
         refine CG.cons O ?_ ?_
         ·
          intro mq hh o
          intro lu h0 lv h3
          have hsN:=o.st t
          cases h0
          obtain⟨rfl,lw⟩:=h3
          exact LF.q 1 (QF.ixoe hsN (mt (mt (mt (mt (mt (mt mh)))))) O O FM ek O λlx em=>AG (AM (BX.refl _) em))
         refine CG.cons O ?_ ?_
         ·
          intro mq hh o
          intro ly h4
          have hsN:=o.st t
          refine LF.q 1 ?_
          have h5:=hsN.epAt (mt (mt (mt (mt (mt (mt mh)))))) el EO.id h4
          exact QF.ld Af (λ_ x=>x) O h5 Ag (λe=>by cases e) O λlz h6=>AG (AM (BX.refl _) h6)
         refine CG.cons O ?_ ?_
         ·
          intro mq hh o
          exact Nt o Ee O λ_ h' o' r'=>AM o' r'
         exact trivial
        intro l0 cm h7 cn l1 h8
        obtain⟨bh,rfl,en⟩:=h8.st t cm
        have cn:Rd _ _ AF h7 aj:=cn
        obtain⟨rfl,⟨h9,ia⟩⟩:=AF.ex cn
        refine Ad (vs:=[.int .i64 aj.Lo,.int .i64 aj.Hi]) O O O O Ag O en .head O λib a4 c8=>LF.nil (kp [14,11,94,93,0,1,7,95] O) (WF.rl (LF.q 7 (QF.mv O O (QF.fao O E6 O (AI Af a4 O (mt mh) O AL O (QF.fao O Kg O (AI Af a4 O (mt mh) O AL O (QF.mkf O O O (QF.bld (cs:=[.int .i64 c.To,.int .i64 c.Delay,.int .i64 2,.func (.func 111) #[] #[.pointer (some ⟨K,0,none⟩),.pointer (some ⟨bh,0,none⟩)]]) NF O O O (AG ?_))))))))))
        have a5:=am.trans ((cm.ext t.1).trans c8)
        have ic:=bc.mono' a5
        have ie:=be.mono' a5
        have ig:=bf.mono' a5
        obtain⟨l2,eo,ih,ii⟩:=a4.pubb (r:=A9) (x:=c) (.tail .head) ⟨_,_,_,O,b4,b5,ay,ap,ic,ie,ig,b6,b7,b8,b9,ca,cb,cc,cd,ce,cf,aq⟩
        obtain⟨ij,ep,c9,ik⟩:=eo.pubb (r:=AF) (x:=aj) .head ⟨O,⟨h9,ia⟩⟩
        have il:=ii.mono c9
        have eq:Rd ij ib (AV.fn Tryz.prog (λx:Int=>([.int .i64 x]:List Value)) (λx:Int=>AB x) (λy:AD=> .agg #[.int .i64 y.Lo,.int .i64 y.Hi]) (λy:AD=>AD.ok y)) (.func (.func 111) #[] #[(.pointer (some ⟨K,0,none⟩)),(.pointer (some ⟨bh,0,none⟩))]) (λx=>CY N c aj x):=JV 111 #[(.pointer (some ⟨K,0,none⟩)),(.pointer (some ⟨bh,0,none⟩))] Xu λS' h' s' e' L hs x y h1 h2=>(Jn hs h1 (il.mono'' s' e') (ik.mono'' s' e') h2).mono λ_ _ _ _ p=>p
        refine Hd (cs:=[.int .i64 c.To,.int .i64 c.Delay,.int .i64 2,(.func (.func 111) #[] #[(.pointer (some ⟨K,0,none⟩)),(.pointer (some ⟨bh,0,none⟩))])]) I0 O O O O O O O ep λl4 l5 er da=>?_
        obtain⟨es,E⟩:=Q0 E
        have im:=eq.mono da
        refine LF.app2 (r:=Bv) (l:=V) (xs:=([(⟨c.To,c.Delay,2,(λx=>CY N c aj x)⟩:AO)]:List AO)) O O I0 O mh ⟨_,_,O,⟨_,O,ap,aq,(iq (n:=2) O),im⟩,O⟩ O O es O er (λ_=>(.tail .head)) λio l6 et ip=>?_
        have eu:=et.drop .head
        refine LF.q 1 (QF.as_ O O (AG (LF.nil (kp [7,94,93,0,1,95] O) (Ap (WF.nil (λaa ww hf hw=>?_))))))
        have ev:=ax.trans (am.trans ((cm.ext t.1).trans (c8.trans (ih.trans (c9.trans (da.trans ip))))))
        exact⟨io,(V++([(⟨c.To,c.Delay,2,(λx=>CY N c aj x)⟩:AO)]:List AO)),_,_,hf.sub (kp [94,93,0,1,95,7] O),hw,eu,ev,E⟩
       ·
        have E:=A3 cl E
        refine WF.seq (WF.rp (.inl O) (QF.fao O E6 O (AI Af t O mh O AL O (QF.mv O O (QF.eql O O O (QF.mv O O (QF.cutv 4 170 (.bool ((decide (c.To=z))&&(decide (c.Kind=4)))) ?_ ?_)))))))
        ·
         cases l7:(decide (c.To=z))
         ·exact AK O O
         ·exact QF.gy O O O (QF.fao O Do O (QF.gy O O O (AI Af t O mh O AL O (QF.gy O O O (QF.eql O O O (QF.pick O O O (AH O)))))))
        refine QF.as_ O O (AA (kp [161,11,94,93,0,1,7,95] O) (WF.if_ O (λco=>?_) (λco=>?_)))
        ·
         have E:=A0 co E
         refine WF.seq ?_
         obtain⟨l8,ew,E⟩:=bd E
         obtain⟨ak,ey,E⟩:=bd E
         refine QQ (m:=[(11,.pointer (some ⟨K,0,none⟩)),(94,.int .i64 (↑p0_w.b.Links.length:Int)),(93,u),(0,.pointer (some ⟨s,0,none⟩)),(1,.int .i64 z),(7,ae),(95,.int .i64 W)]) 9 (λi v hh=>match i with|0=>v= .pointer (some ⟨s,0,none⟩)|1=>v= .pointer (some ⟨s,0,none⟩)|2=>v= .pointer (some ⟨s,15,none⟩)|3=>v=d|4=>v= .pointer (some ⟨K,2,none⟩)|5=>v= .int .i64 c.From∧AB c.From|6=>EP d (c.From.toNat*(AF).sz+0) v|7=>Rd aw hh AF v ak|8=>Od c1 51 [.int .i64 0,.int .i64 0] v hh|_=>False) [[],[(0,171)],[(1,172)],[(2,173)],[],[(4,175)],[(3,174),(5,176)],[(6,177)],[]] [(7,178),(8,15)] mo (by kernel_rfl) [11,94,93,0,1,7,95] O (by kernel_rfl) (by kernel_rfl) (by kernel_rfl) (kp [11,94,93,0,1,7,95] O) (λi v h1 h2 o1 o2 hr=>?_) ?_ ?_
         ·match i,hr with
           |0,hr=>exact hr
           |1,hr=>exact hr
           |2,hr=>exact hr
           |3,hr=>exact hr
           |4,hr=>exact hr
           |5,hr=>exact hr
           |6,hr=>exact hr
           |7,hr=>exact Rd.mono hr (o2.ext λb hb=>Nat.lt_of_lt_of_le (t.1 b hb) o1.siz)
           |8,hr=>exact hr.mono o2
           |_+9,hr=>exact hr.elim
         ·
          refine CG.cons O ?_ ?_
          ·
           intro mq hh o
           have hsN:=o.st t
           exact LF.q 1 (QF.mv O O (AG (AM (BX.refl _) O)))
          refine CG.cons O ?_ ?_
          ·
           intro mq hh o
           intro ma ir
           have hsN:=o.st t
           cases ir
           exact LF.q 1 (D8 O O (AG (AM (BX.refl _) O)))
          refine CG.cons O ?_ ?_
          ·
           intro mq hh o
           intro mb it
           have hsN:=o.st t
           cases it
           exact LF.q 1 (QF.fao O Fk O (AG (AM (BX.refl _) O)))
          refine CG.cons O ?_ ?_
          ·
           intro mq hh o
           intro mc iu
           have hsN:=o.st t
           cases iu
           exact LF.q 1 (AI Af hsN O (mt (mt mh)) O Gn O (AG (AM (BX.refl _) O)))
          refine CG.cons O ?_ ?_
          ·
           intro mq hh o
           have hsN:=o.st t
           exact LF.q 1 (QF.fao O GV O (AG (AM (BX.refl _) O)))
          refine CG.cons O ?_ ?_
          ·
           intro mq hh o
           intro md iv
           have hsN:=o.st t
           cases iv
           exact LF.q 1 (AI Af hsN O mh O AL O (AG (AM (BX.refl _) ⟨O,ay⟩)))
          refine CG.cons O ?_ ?_
          ·
           intro mq hh o
           intro me iw mf iy
           have hsN:=o.st t
           cases iw
           obtain⟨rfl,mg⟩:=iy
           exact LF.q 1 (QF.ixoe hsN (mt (mt (mt (mt (mt (mt mh)))))) O O FM ew O λmi ez=>AG (AM (BX.refl _) ez))
          refine CG.cons O ?_ ?_
          ·
           intro mq hh o
           intro mj iz
           have hsN:=o.st t
           refine LF.q 1 ?_
           have i0:=hsN.epAt (mt (mt (mt (mt (mt (mt mh)))))) ey EO.id iz
           exact QF.ld Af (λ_ x=>x) O i0 Ag (λe=>by cases e) O λml i1=>AG (AM (BX.refl _) i1)
          refine CG.cons O ?_ ?_
          ·
           intro mq hh o
           exact Nt o Ee O λ_ h' o' r'=>AM o' r'
          exact trivial
         intro mm cp i2 cq mn i3
         obtain⟨bi,rfl,e0⟩:=i3.st t cp
         have cq:Rd _ _ AF i2 ak:=cq
         obtain⟨rfl,⟨i4,i5⟩⟩:=AF.ex cq
         refine Ad (vs:=[.int .i64 ak.Lo,.int .i64 ak.Hi]) O O O O Ag O e0 .head O λi6 a6 db=>LF.nil (kp [15,11,94,93,0,1,7,95] O) (WF.rl (LF.q 7 (QF.mv O O (QF.fao O GV O (AI Af a6 O (mt mh) O AL O (QF.fao O Kg O (AI Af a6 O (mt mh) O AL O (QF.mkf O O O (QF.bld (cs:=[.int .i64 c.From,.int .i64 c.Delay,.int .i64 2,.func (.func 114) #[] #[.pointer (some ⟨K,0,none⟩),.pointer (some ⟨bi,0,none⟩)]]) NF O O O (AG ?_))))))))))
         have a7:=am.trans ((cp.ext t.1).trans db)
         have i7:=bc.mono' a7
         have i8:=be.mono' a7
         have i9:=bf.mono' a7
         obtain⟨mp,e1,ja,jb⟩:=a6.pubb (r:=A9) (x:=c) (.tail .head) ⟨_,_,_,O,b4,b5,ay,ap,i7,i8,i9,b6,b7,b8,b9,ca,cb,cc,cd,ce,cf,aq⟩
         obtain⟨jc,e2,dc,jd⟩:=e1.pubb (r:=AF) (x:=ak) .head ⟨O,⟨i4,i5⟩⟩
         have je:=jb.mono dc
         have e3:Rd jc i6 (AV.fn Tryz.prog (λx:Int=>([.int .i64 x]:List Value)) (λx:Int=>AB x) (λy:AD=> .agg #[.int .i64 y.Lo,.int .i64 y.Hi]) (λy:AD=>AD.ok y)) (.func (.func 114) #[] #[(.pointer (some ⟨K,0,none⟩)),(.pointer (some ⟨bi,0,none⟩))]) (λx=>CX N c ak x):=JV 114 #[(.pointer (some ⟨K,0,none⟩)),(.pointer (some ⟨bi,0,none⟩))] Xt λS' h' s' e' L hs x y h1 h2=>(Jm hs h1 (je.mono'' s' e') (jd.mono'' s' e') h2).mono λ_ _ _ _ p=>p
         refine Hd (cs:=[.int .i64 c.From,.int .i64 c.Delay,.int .i64 2,(.func (.func 114) #[] #[(.pointer (some ⟨K,0,none⟩)),(.pointer (some ⟨bi,0,none⟩))])]) I0 O O O O O O O e2 λmr ms e4 dd=>?_
         obtain⟨e5,E⟩:=Q0 E
         have jf:=e3.mono dd
         refine LF.app2 (r:=Bv) (l:=V) (xs:=([(⟨c.From,c.Delay,2,(λx=>CX N c ak x)⟩:AO)]:List AO)) O O I0 O mh ⟨_,_,O,⟨_,O,ay,aq,(iq (n:=2) O),jf⟩,O⟩ O O e5 O e4 (λ_=>(.tail .head)) λjg mu e6 jh=>?_
         have e7:=e6.drop .head
         refine LF.q 1 (QF.as_ O O (AG (LF.nil (kp [7,94,93,0,1,95] O) (Ap (WF.nil (λaa ww hf hw=>?_))))))
         have e8:=ax.trans (am.trans ((cp.ext t.1).trans (db.trans (ja.trans (dc.trans (dd.trans jh))))))
         exact⟨jg,(V++([(⟨c.From,c.Delay,2,(λx=>CX N c ak x)⟩:AO)]:List AO)),_,_,hf.sub (kp [94,93,0,1,95,7] O),hw,e7,e8,E⟩
        ·
         have E:=A3 co E
         refine WF.skip (Ap (WF.nil (λaa ww hf hw=>?_)))
         have e9:=t.sel [1,1,1,1,1,1] 1 O
         exact⟨ae,V,_,_,hf.sub (kp [94,93,0,1,95,7] O),hw,e9,(ax.trans am),E⟩
     ·
      rintro aa ww ⟨ba,bb,mw,mx,hf,hw,fb,ji,E⟩
      refine WF.run ?_ hf hw
      clear hf hw ww aa
      rw[Bu] at E
      refine WF.rp (.inl O) (QF.addw O O O (QF.mv O O (AA (kp [95,94,93,0,1,7] O) (WF.nil (λaa ww hf hw=>?_)))))
      exact⟨ba,bb,(Aw (W+1)),_,_,hf.sub (kp [94,93,0,1,7,95] O),hw,fb,(bx.trans ji),(BA _),E⟩
    ·
     have E:=A3 bz E
     refine WF.exit O (λaa ww hf hw=>?_)
     exact⟨ae,V,_,_,hf.sub (kp [0,1,7] O),hw,a1,bx,E⟩
  ·
   rintro aa ww ⟨a9,ao,de,my,hf,hw,a8,df,E⟩
   refine WF.run ?_ hf hw
   clear hf hw ww aa
   rw[BL] at E
   refine WF.seq (WF.seq (WF.rl (LF.q 8 (QF.mv O O (D8 O O (QF.fao O Fl O (QF.fao O DW O (AI Af a8 O (mt mh) O Ff O (QF.mv O O ?_)))))))))
   have jj:=X.mono' (bw.trans df)
   obtain⟨A,fc,E⟩:=bd E
   refine QF.ixe O O jj E5 fc O λmz jk=>QF.ld Af a8.1 O jk Im (λe=>by cases e) O λm0 jl=>AG (LF.al OB O a8 λbj m1 fd dg=>?_)
   have jm:=jl.mono dg
   obtain⟨dh,di,dj,rfl,jn,jo,jp,jq,dk,dl,jr,js,dm,dn,jt,dp⟩:=BO.ex jm
   refine LF.st (vs:=[.string A.Name,.int .i64 A.Kind,.int .i64 A.Office,.int .i64 A.Cap,dh,di,.int .i64 A.Num,.int .i64 A.Den,.int .i64 A.Down,.int .i64 A.Delay,.int .i64 A.Floor,dj]) (cs':=[.string A.Name,.int .i64 A.Kind,.int .i64 A.Office,.int .i64 A.Cap,dh,di,.int .i64 A.Num,.int .i64 A.Den,.int .i64 A.Down,.int .i64 A.Delay,.int .i64 A.Floor,dj]) O O O (AC O (AC O (AC O (AC O (AC dk.one (AC dl.one (AC O (AC O (AC O (AC O (AC O (AC dp.one Eo)))))))))))) Im O fd .head O O λcr an bk=>LF.nil (kp [16,7] O) (WF.seq (WF.rp (.inl O) (QF.fao O Ip O (AI Af an O mh O AL O (QF.neq O O O (AA (kp [199,16,7] O) (WF.cut (λa w=>∃(ct:Value) (cu:List AO),IV B de cr (210,[]) a w [(7,ct)] (OS Bv 181 ct cu::Bx s 106 [.string p0_w.b.Name,C,.int .i64 p0_w.b.Cells,D,u,F,G,H,I,J,.int .i64 p0_w.b.Err,.int .i64 p0_w.h.Hour,g,j,k,d]::OS AF 51 g p0_w.h.Vol::OS BS 93 j p0_w.h.Queue::OS AZ 97 k p0_w.h.Links::OS AF 51 d p0_w.peaks::L) λ_ _=>EY N cu=some r) ?_ ?_)))))))
   ·
    refine WF.if_ O (λcv=>?_) (λcv=>?_)
    ·
     have E:=A0 cv E
     refine WF.rl (LF.q 7 (QF.mv O O (QF.fao O M5 O (AI Af an O mh O AL O (QF.fao O O2 O (AI Af an O mh O AL O (QF.mkf O O O (QF.bld (cs:=[.int .i64 A.Down,.int .i64 A.Delay,.int .i64 2,.func (.func 116) #[] #[.pointer (some ⟨bj,0,none⟩)]]) NF O O O (AG ?_)))))))))
     have ju:=dk.mono' bk
     have jv:=dl.mono' bk
     have jw:=dp.mono' bk
     obtain⟨jx,fe,jy,jz⟩:=an.pubb (r:=BO) (x:=A) .head ⟨_,_,_,O,jn,jo,jp,jq,ju,jv,jr,js,dm,dn,jt,jw⟩
     have ff:Rd jx cr (AV.fn Tryz.prog (λx:Int=>([.int .i64 x]:List Value)) (λx:Int=>AB x) (λy:AD=> .agg #[.int .i64 y.Lo,.int .i64 y.Hi]) (λy:AD=>AD.ok y)) (.func (.func 116) #[] #[(.pointer (some ⟨bj,0,none⟩))]) (λx=>CF N A x):=JV 116 #[(.pointer (some ⟨bj,0,none⟩))] Xr λS' h' s' e' L hs x y h1 h2=>(Jl hs h1 (jz.mono'' s' e') h2).mono λ_ _ _ _ p=>p
     refine Hd (cs:=[.int .i64 A.Down,.int .i64 A.Delay,.int .i64 2,(.func (.func 116) #[] #[(.pointer (some ⟨bj,0,none⟩))])]) I0 O O O O O O O fe λm2 m3 fg dq=>?_
     obtain⟨fh,E⟩:=Q0 E
     have j0:=ff.mono dq
     refine LF.app2 (r:=Bv) (l:=ao) (xs:=([(⟨A.Down,A.Delay,2,(λx=>CF N A x)⟩:AO)]:List AO)) O O I0 O mh ⟨_,_,O,⟨_,O,dm,dn,(iq (n:=2) O),j0⟩,O⟩ O O fh O fg (λ_=>(.tail .head)) λj1 m4 fi j2=>?_
     have fj:=fi.drop .head
     refine LF.q 1 (QF.as_ O O (AG (LF.nil (kp [7] O) (WF.nil (λaa ww hf hw=>?_)))))
     have fk:=jy.trans (dq.trans j2)
     exact⟨j1,(ao++([(⟨A.Down,A.Delay,2,(λx=>CF N A x)⟩:AO)]:List AO)),_,_,hf.sub (kp [7] O),hw,fj,fk,E⟩
    ·
     have E:=A3 cv E
     refine WF.skip (WF.nil (λaa ww hf hw=>?_))
     have fl:=an.sel [1,1,1,1,1,1] 1 O
     exact⟨a9,ao,_,_,hf.sub (kp [7] O),hw,fl,(Bc.refl de cr),E⟩
   ·
    rintro aa ww ⟨ct,cu,m5,m6,hf,hw,fm,j3,E⟩
    refine WF.run ?_ hf hw
    clear hf hw ww aa
    rw[EY] at E
    refine WF.seq (WF.rp (.inl O) (QF.mv O O (QF.as_ O O (AA (kp [6] O) (WF.ret (λaa ww hf hw=>?_))))))
    cases E
    have fo:=bw.trans (df.trans (dg.trans (bk.trans j3)))
    exact DD hf hw O O fo fm
end Go.Proofs.YtibidnaedddfdaaGreat
