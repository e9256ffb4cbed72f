import Derived.Test.YtibidnaedddfdaaGreatDWalk8
namespace Go.Proofs.YtibidnaedddfdaaGreat
set_option linter.all false
open Go.RowKit
open Go.Proofs.Tryz
set_option maxRecDepth 10000
set_option maxHeartbeats 2000000
variable {N:Nat}{S:Nat→Prop}{L:List HP}{h:BB}
def Lb (t:St S L h) {b:Int}(k:AD b) {a:Value}{c:II}(g:Pt S h Hq a c) {r:AH}(E:Dp N c b=some r):
 Ct prog 108 #[vI b,a] S h (λv S' h'=>v= .agg #[vI r.B,vI r.A]∧AH.ok r∧St S' (L) h'):=by
 refine BO (l:=[vI b,a]) 7 func108 O ntmps108 O λB=>?_
 rw[Dp] at E
 refine WF.sl (CX F7 O t λx y i o=>AS (kp [3,1] O) (WF.sl (A5 3 (AV O (g.mono o) II.f_Litres SJ O λz u=>AY BX i.1 O u AZ O λw=>DB (cs:=[vI 0,vI c.As]) Ip O O O (A6 (BU (vs:=[vI 0,vI c.As]) O O O O BY O i .head O λC d m=>AS (kp [3] O) (WF.ret (λD F p s=>?_))))))))
 have j:=d.drop .head
 cases E
 exact I1 p O s (IH (M2 p s d O mh BY O) Io) O (o.trans m) ⟨O,⟨(iq (n:=0) O),w⟩,j⟩
def IL (u:St S L h) {c:Int}(i:AD c) {a:Int}(d:AD a) {b:Int}(g:AD b) {r:Int}(E:Gz N c a b=some r):
 Ct prog 173 #[vI c,vI a,vI b] S h (λv S' h'=>v=vI r∧AD r∧St S' (L) h'):=by
 refine BO (l:=[vI c,vI a,vI b]) 21 func173 O ntmps173 O λB=>?_
 rw[Gz] at E
 refine AE (AJ O (kp [0,1,2] O) (AC (WF.rc (.inl O) u (AA O (AA O (AA O ?_))))))
 obtain⟨j,m,E⟩:=bd E
 refine Hk (v:= .tuple #[vI j.1,vI j.2.1,.bool j.2.2]) (Ψ:=AD j.1∧AD j.2.1) O O O RK O (λh' o=>(IZ (St.all h') i d g m).mono λ_ _ _ _ p=>⟨p.1,⟨p.2.1,p.2.2.1⟩⟩) λw=>?_
 obtain⟨x,C⟩:=w
 refine AA O (De O (De O (De O (A4 O (A4 O (A4 O (Bu (kp [9,7] O) λD k t=>AC (AE (AA O (BT O (AL (kp [19,7] O) (AW O E (λy E=>?_) (λy E=>?_)))))))))))))
 ·refine AE (AJ O (kp [6] O) (WF.ret (λz A q s=>?_)))
  cases E
  exact EU q s O O t ⟨O,(iq (n:=0) O),k⟩
 refine AQ (AE (AA O (AJ O (kp [6] O) (WF.ret (λz A q s=>?_)))))
 cases E
 exact EU q s O O t ⟨O,x,k⟩
def P9 (K:St S L h) {c:Value}{k:A7}(j:Rd S h CI c k) {a:Int}(b:AD a) {d:Int}(g:AD d) {r:Int}(E:JT N k a d=some r):
 Ct prog 175 #[c,vI a,vI d] S h (λv S' h'=>v=vI r∧AD r∧St S' (L) h'):=by
 refine BO (l:=[c,vI a,vI d]) 20 func175 O ntmps175 O λB=>?_
 rw[JT] at E
 refine WF.sl (BM O j (λe=>by cases e) O K λq1 S2 h3 i J t=>A5 1 (A4 O (A6 (AS (kp [3,1,2] O) (AC (AE (AV O t A7.f_To Gb O λq7 M=>AY BX i.1 O M AZ O λr9=>CR O (AL (kp [9,3,1,2] O) (AW O E (λu E=>?_) (λu E=>?_))))))))))
 ·refine AE (AA O (AJ O (kp [6] O) (WF.ret (λQ U w x=>?_))))
  cases E
  exact EU w x O O J ⟨O,b,i⟩
 refine AQ (AC (WF.rc (.inl O) i (AA O (AA O (AV O t Hn I9 O λV y=>AY Bs i.1 O y AZ O λz=>AV O t Gr Il O λW A=>AY Bs i.1 O A AZ O λC=>?_)))))
 obtain⟨X,m,E⟩:=bd E
 refine Bz O O O Pk O (λh' o=>IL (St.all h') g z C m) λD=>?_
 have F:=D
 obtain⟨Y,p,E⟩:=bd E
 refine Bz O O O Jc O (λh' o=>Ek (St.all h') b F p) λG=>?_
 have H:=G
 refine Jf O O O (A4 O (Bu (kp [6] O) λZ s I=>WF.ret (λQ U w x=>?_)))
 cases E
 exact EU w x O O (J.trans I) ⟨O,(HI (iq (n:=0) O) H),s⟩
def RG (w:St S L h) {a:Value}{g:(List BC)}(b:Sl S h CM a g) {c:Int}(d:AD c) {r:Int}(E:J5 N g c=some r):
 Ct prog 174 #[a,vI c] S h (λv S' h'=>v=vI r∧AD r∧St S' (L) h'):=by
 refine BO (l:=[a,vI c]) 17 func174 O ntmps174 O λB=>?_
 rw[J5] at E
 refine AE (AJ O (kp [0,1] O) (AC (AC (WF.rc (.inl O) w (AA O ?_)))))
 obtain⟨D,k,E⟩:=bd E
 refine BL O O O Pi O (λh' o=>GD (St.all h') (b.mono' (o.all w.1)) k) (BT O (Bu (kp [9,0,1] O) λF i m=>AW O E (λx E=>?_) (λx E=>?_)))
 ·refine AE (AJ O (kp [4] O) (WF.ret (λy z p q=>?_)))
  cases E
  exact EU p q O O m ⟨O,(iq (n:=0) O),i⟩
 refine AQ (AC (WF.rc (.inl O) i (AA O (AA O ?_))))
 obtain⟨G,s,E⟩:=bd E
 refine Bz O O O TY O (λh' o=>Jb (St.all h') ((b.mono' m).mono' (o.all i.1)) d s) λA=>?_
 have t:=A
 refine AA O (De O (De O (A4 O (A4 O (Bu (kp [5] O) λC j u=>AE (AA O (AJ O (kp [4] O) (WF.ret (λy z p q=>?_)))))))))
 cases E
 exact EU p q O O (m.trans u) ⟨O,t,j⟩
def Mo (hs:St S L h) {y:Value}{t:A7}(J:Rd S h CI y t) {i:Int}(u:AD i) {c:Bool}{s:Value}{G:(List BC)}(K:Sl S h CM s G) {b:Int}(j:AD b) {k:Int}(H:AD k) {r:Int}(E:HY N t i c G b k=some r):
 Ct prog 150 #[y,vI i,.bool c,s,vI b,vI k] S h (λv S' h'=>v=vI r∧AD r∧St S' (L) h'):=by
 refine BO (l:=[y,vI i,.bool c,s,vI b,vI k]) 63 func150 O ntmps150 O λB=>?_
 rw[HY] at E
 refine WF.sl (BM O J (λe=>by cases e) O hs λq1 D F z Q k6=>A5 1 (A4 O (A6 (AS (kp [6,1,2,3,4,5] O) (AC (AE (AV O k6 A7.f_Kind E6 O λq7 k8=>AY BX z.1 O k8 AZ O λr9=>AL (kp [14,6,1,2,3,4,5] O) (BG (λa w=>IV B D F (63,[]) a w [] (L) λ_ _=>F4 N=some r) ?_ ?_))))))))
 ·refine AC (BG (λa w=>IV B D F (63,[]) a w [(6,q1),(4,vI b)] (L) λ_ _=>Fg N t b=some r) ?_ ?_)
  ·refine AC (BG (λa w=>IV B D F (63,[]) a w [(6,q1),(2,.bool c),(4,vI b)] (L) λ_ _=>H7 N c (Fg N t b)=some r) ?_ ?_)
   ·refine AC (BG (λa w=>IV B D F (63,[]) a w [(6,q1),(2,.bool c),(4,vI b)] (L) λ_ _=>H6 N t c b (F4 N)=some r) ?_ ?_)
    ·refine AC (BG (λa w=>IV B D F (63,[]) a w [(6,q1),(1,vI i)] (L) λ_ _=>H5 N t i=some r) ?_ ?_)
     ·refine AC (BG (λa w=>IV B D F (63,[]) a w [(6,q1),(1,vI i),(3,s),(4,vI b),(5,vI k)] (L) λ_ _=>Iu N t i G b k=some r) ?_ ?_)
      ·refine AC (AC (AE (CR O (AJ O (kp [15,14,6,1,2,3,4,5] O) (AW O E (λa0 E=>?_) (λa0 E=>?_))))))
       ·refine WF.exit O (λm p d g=>?_)
        exact⟨_,_,d.sub (kp [6,1,3,4,5] O),g,z,(Cm.refl D F),E⟩
       refine AQ (AC (AE (CR O (AJ O (kp [17,14,6,1,2,4] O) (AW O E (λa1 E=>?_) (λa1 E=>?_))))))
       ·refine WF.exit O (λm p d g=>?_)
        exact⟨_,_,d.sub (kp [6,1] O),g,z,(Cm.refl D F),E⟩
       refine AQ (AC (AE (CR O (AJ O (kp [19,14,6,2,4] O) (AW O E (λa2 E=>?_) (λa2 E=>?_))))))
       ·refine WF.exit O (λm p d g=>?_)
        exact⟨_,_,d.sub (kp [6,2,4] O),g,z,(Cm.refl D F),E⟩
       refine AQ (AC (AE (CR O (AJ O (kp [21,14,6,2,4] O) (AW O E (λa3 E=>?_) (λa3 E=>?_))))))
       ·refine WF.exit O (λm p d g=>?_)
        exact⟨_,_,d.sub (kp [6,2,4] O),g,z,(Cm.refl D F),E⟩
       refine AQ (AE (CR O (AJ O (kp [23,6,4] O) (AW O E (λa4 E=>?_) (λa4 E=>?_)))))
       ·refine WF.exit O (λm p d g=>?_)
        exact⟨_,_,d.sub (kp [6,4] O),g,z,(Cm.refl D F),E⟩
       refine AQ (WF.exit O (λm p d g=>?_))
       exact⟨_,_,d.sub Kv,g,z,(Cm.refl D F),E⟩
      rintro m p ⟨cb,cc,d,g,x,U,E⟩
      refine A8 ?_ d g
      clear d g p m
      rw[Iu] at E
      refine AC (AC (WF.rc (.inr ⟨mo,by kernel_rfl⟩) x (AA O ?_)))
      have V:=k6.mono U
      refine BP Bs x.1 O V FC (λe=>by cases e) O λcd a5=>AA O (AA O ?_)
      obtain⟨ce,ac,E⟩:=bd E
      refine Bz O O O Z2 O (λh' o=>P9 (St.all h') (a5.mono (o.all x.1)) j H ac) λa6=>?_
      have a7:=a6
      obtain⟨cf,ad,E⟩:=bd E
      refine Bz O O O Z3 O (λh' o=>RG (St.all h') ((K.mono' (Q.trans U)).mono' (o.all x.1)) a7 ad) λa8=>?_
      have a9:=a8
      refine AA O (AV O V DD Hg O λcg ba=>AY Bs x.1 O ba AZ O λbb=>?_)
      obtain⟨ch,ae,E⟩:=bd E
      refine Bz O O O Pk O (λh' o=>IL (St.all h') a9 u bb ae) λbc=>?_
      have be:=bc
      refine AV O V LI Pa O λci bf=>AY Bs x.1 O bf AZ O λbg=>?_
      obtain⟨cj,af,E⟩:=bd E
      refine Bz O O O OY O (λh' o=>GR (St.all h') be bg af) λbh=>?_
      have bi:=bh
      refine A4 O (Bu (kp [12] O) λck ag bj=>WF.ret (λm p d g=>?_))
      cases E
      exact EU d g O O (Q.trans (U.trans bj)) ⟨O,bi,ag⟩
     rintro m p ⟨cl,cm,d,g,I,ah,E⟩
     refine A8 ?_ d g
     clear d g p m
     rw[H5] at E
     refine AC (AC (WF.rc (.inl O) I ?_))
     have ai:=k6.mono ah
     refine AV O ai A7.f_Num HL O λcn bk=>AY Bs I.1 O bk AZ O λbl=>AA O (AV O ai DD Hg O λco bm=>AY Bs I.1 O bm AZ O λbn=>?_)
     obtain⟨cp,aj,E⟩:=bd E
     refine Bz O O O Pk O (λh' o=>IL (St.all h') bl u bn aj) λbo=>?_
     have bp:=bo
     refine A4 O (Bu (kp [12] O) λcq ak bq=>WF.ret (λm p d g=>?_))
     cases E
     exact EU d g O O (Q.trans (ah.trans bq)) ⟨O,bp,ak⟩
    rintro m p ⟨cr,cs,d,g,A,W,E⟩
    refine A8 ?_ d g
    clear d g p m
    rw[H6] at E
    refine AC (AE (AA O (AL (kp [44,6,4] O) (AW O E (λbr E=>?_) (λbr E=>?_)))))
    ·refine AC (WF.rc (.inl O) A (AA O ?_))
     have al:=k6.mono W
     refine AV O al A7.f_Num HL O λct bs=>AY Bs A.1 O bs AZ O λbt=>AV O al A7.f_Den IE O λcu bu=>AY Bs A.1 O bu AZ O λbv=>?_
     obtain⟨cv,am,E⟩:=bd E
     refine Bz O O O Pk O (λh' o=>IL (St.all h') j bt bv am) λbw=>?_
     have bx:=bw
     refine A4 O (Bu (kp [12] O) λcw an bz=>WF.ret (λm p d g=>?_))
     cases E
     exact EU d g O O (Q.trans (W.trans bz)) ⟨O,bx,an⟩
    refine AQ (WF.exit O (λm p d g=>?_))
    exact⟨_,_,d.sub Kv,g,A,W,E⟩
   rintro m p ⟨cx,cy,d,g,M,ao,E⟩
   refine A8 ?_ d g
   clear d g p m
   rw[H7] at E
   refine AE (AA O (BT O (AL (kp [52,6,4] O) (AW O E (λb0 E=>?_) (λb0 E=>?_)))))
   ·refine AE (AJ O (kp [12] O) (WF.ret (λm p d g=>?_)))
    cases E
    exact EU d g O O (Q.trans ao) ⟨O,(iq (n:=0) O),M⟩
   refine AQ (WF.nil (λm p d g=>?_))
   exact⟨_,_,d.sub (kp [6,4] O),g,M,ao,E⟩
  rintro m p ⟨cz,c0,d,g,C,ap,E⟩
  refine A8 ?_ d g
  clear d g p m
  rw[Fg] at E
  refine AC (AC (WF.rc (.inr ⟨mo,by kernel_rfl⟩) C (AA O ?_)))
  have X:=k6.mono ap
  refine AV O X A7.f_Crest PZ O λc1 b1=>AY Bs C.1 O b1 AZ O λb2=>?_
  obtain⟨c2,aq,E⟩:=bd E
  refine Bz O O O Jc O (λh' o=>Ek (St.all h') j b2 aq) λb3=>?_
  have b4:=b3
  refine Jf O O O (AV O X A7.f_Num HL O λc3 b5=>AY Bs C.1 O b5 AZ O λar=>AV O X A7.f_Den IE O λb6 au=>AY Bs C.1 O au AZ O λav=>?_)
  obtain⟨b7,Y,E⟩:=bd E
  refine Bz O O O Pk O (λh' o=>IL (St.all h') (HI (iq (n:=0) O) b4) ar av Y) λaw=>?_
  have ax:=aw
  refine A4 O (Bu (kp [12] O) λb8 Z ay=>WF.ret (λm p d g=>?_))
  cases E
  exact EU d g O O (Q.trans (ap.trans ay)) ⟨O,ax,Z⟩
 rintro m p ⟨b9,ca,d,g,ab,az,E⟩
 refine A8 ?_ d g
 clear d g p m
 rw[F4] at E
 refine AE (AJ O (kp [12] O) (WF.ret (λm p d g=>?_)))
 cases E
 exact EU d g O O (Q.trans az) ⟨O,(iq (n:=0) O),ab⟩
def Oh (hs:St S L h) {d:Value}{w:A7}(p:Rd S h CI d w) {g:Value}{x:BA}(q:Rd S h BK g x) {b:Value}{i:AH}(j:Rd S h AM b i) {c:Value}{k:AH}(m:Rd S h AM c k) {r:AH}(E:Eg N w x i k=some r):
 Ct prog 110 #[d,g,b,c] S h (λv S' h'=>v= .agg #[vI r.B,vI r.A]∧AH.ok r∧St S' (L) h'):=by
 refine BO (l:=[d,g,b,c]) 42 func110 O ntmps110 O λB=>?_
 rw[Eg] at E
 refine WF.sl (BM O p (λe=>by cases e) O hs λq1 S2 h3 X Y k6=>BM O (q.mono Y) (λe=>by cases e) O X λq8 S9 bc F C Z=>BM O (j.mono (Y.trans C)) (λe=>by cases e) O F λbe bf bg G D ab=>?_)
 have y:=Y.trans (C.trans D)
 refine BM O (m.mono y) (λe=>by cases e) O G λbh bi bj H s ac=>CX F7 O H λbk bl a n=>AS (kp [8,7,6,5,4] O) (AC (F6 33 mo (by kernel_rfl) O a ?_))
 have t:=k6.mono (C.trans (D.trans (s.trans n)))
 refine BP Bs a.1 O t FC (λe=>by cases e) O λbm ad=>?_
 have u:=Z.mono (D.trans (s.trans n))
 refine AV O u BA.f_Pos JJ O λbn ae=>AV O ae AH.f_Lo EV O λbo af=>AY Bs a.1 O af AZ O λag=>AV O u BA.f_Open JI O λbp ah=>AV O ah AH.f_Lo EV O λbq ai=>AY Bs a.1 O ai AZ O λbr=>EQ O (AV O t G2 IM O λbs aj=>AV O aj KJ.f_Lo L5 O λbt ak=>BR Bs a.1 O ak Hs O λbu am=>?_)
 have I:=ab.mono (s.trans n)
 refine AV O I AH.f_Lo EV O λbv an=>AY Bs a.1 O an AZ O λao=>?_
 have J:=ac.mono n
 refine AV O J AH.f_Hi D2 O λbw ap=>AY Bs a.1 O ap AZ O λaq=>?_
 obtain⟨K,M,E⟩:=bd E
 refine Bz O O O Wp O (λh' o=>Mo (St.all h') (ad.mono (o.all a.1)) ag (am.mono' (o.all a.1)) ao aq M) λar=>?_
 have au:=ar
 refine BP Bs a.1 O t FC (λe=>by cases e) O λbx av=>AV O u BA.f_Pos JJ O λbz aw=>AV O aw AH.f_Hi D2 O λb0 ax=>AY Bs a.1 O ax AZ O λay=>AV O u BA.f_Open JI O λb1 az=>AV O az AH.f_Hi D2 O λb2 a0=>AY Bs a.1 O a0 AZ O λb3=>EQ O (AV O t G2 IM O λb4 a1=>AV O a1 KJ.f_Hi L4 O λb5 a2=>BR Bs a.1 O a2 Hs O λb6 a3=>AV O I AH.f_Hi D2 O λb7 a4=>AY Bs a.1 O a4 AZ O λa5=>AV O J AH.f_Lo EV O λb8 a6=>AY Bs a.1 O a6 AZ O λa7=>?_)
 obtain⟨Q,U,E⟩:=bd E
 refine Bz O O O Wp O (λh' o=>Mo (St.all h') (av.mono (o.all a.1)) ay (a3.mono' (o.all a.1)) a5 a7 U) λa8=>?_
 have a9:=a8
 refine DB (cs:=[vI K,vI Q]) Ip O O O (E0 λb9 V ba=>BU (vs:=[vI K,vI Q]) O O O O BY O V .head O λca z bb=>AS (kp [8] O) (WF.ret (λaa ww hf hw=>?_)))
 have W:=z.drop .head
 cases E
 exact I1 hf O hw (IH (M2 hf hw z O mh BY O) Io) O (y.trans (s.trans (n.trans (ba.trans bb)))) ⟨O,⟨au,a9⟩,W⟩
def La (W:St S L h) {g:Int}(i:AD g) {a:Value}{p:A7}(k:Pt S h CI a p) {b:Value}{c2_:BA}(m:Pt S h BK b c2_) {c:Value}{c3_:AH}(n:Pt S h AM c c3_) {r:AH}(E:Do N p c2_ c3_ g=some r):
 Ct prog 109 #[vI g,a,b,c] S h (λv S' h'=>v= .agg #[vI r.B,vI r.A]∧AH.ok r∧St S' (L) h'):=by
 refine BO (l:=[vI g,a,b,c]) 12 func109 O ntmps109 O λB=>?_
 rw[Do] at E
 refine WF.sl (CX F7 O W λb1 h2 d y=>AS (kp [5,0,1,2,3] O) (AC (F6 6 mo (by kernel_rfl) O d (BP Bs d.1 O (k.mono y) FC (λe=>by cases e) O λv6 X=>BP Bs d.1 O (m.mono y) IG (λe=>by cases e) O λv9 z=>AA O ?_))))
 obtain⟨C,q,E⟩:=bd E
 refine Bz O O O Mr O (λh' o=>GP (St.all h') i q) λD=>?_
 obtain⟨F,G⟩:=D
 refine BP Bs d.1 O (n.mono y) BY (λe=>by cases e) O λY H=>?_
 obtain⟨s,t,E⟩:=bd E
 refine Bz O O O aL O (λh' o=>Oh (St.all h') (X.mono (o.all d.1)) (z.mono (o.all d.1)) (AM.mk (x:=C) ⟨F,G⟩) (H.mono (o.all d.1)) t) λI=>?_
 obtain⟨J,K⟩:=I
 refine E0 λZ u M=>BU (vs:=[vI s.B,vI s.A]) O O O O BY O u .head O λab j Q=>AS (kp [5] O) (WF.ret (λaa ww U V=>?_))
 have w:=j.drop .head
 cases E
 exact I1 U O V (IH (M2 U V j O mh BY O) Io) O (y.trans (M.trans Q)) ⟨O,⟨J,K⟩,w⟩
def Mn (u:St S L h) {c:Int}(i:AD c) {a:Int}(d:AD a) {b:Int}(g:AD b) {r:Int}(E:Im N c a b=some r):
 Ct prog 176 #[vI c,vI a,vI b] S h (λv S' h'=>v=vI r∧AD r∧St S' (L) h'):=by
 refine BO (l:=[vI c,vI a,vI b]) 21 func176 O ntmps176 O λB=>?_
 rw[Im] at E
 refine AE (AJ O (kp [0,1,2] O) (AC (WF.rc (.inl O) u (AA O (AA O (AA O ?_))))))
 obtain⟨j,m,E⟩:=bd E
 refine Hk (v:= .tuple #[vI j.1,vI j.2.1,.bool j.2.2]) (Ψ:=AD j.1∧AD j.2.1) O O O RK O (λh' o=>(IZ (St.all h') i d g m).mono λ_ _ _ _ p=>⟨p.1,⟨p.2.1,p.2.2.1⟩⟩) λw=>?_
 obtain⟨x,C⟩:=w
 refine AA O (De O (De O (De O (A4 O (A4 O (A4 O (Bu (kp [9,7] O) λD k t=>AC (AE (AA O (BT O (AL (kp [19,7] O) (AW O E (λy E=>?_) (λy E=>?_)))))))))))))
 ·refine AE (AJ O (kp [6] O) (WF.ret (λz A q s=>?_)))
  cases E
  exact EU q s O O t ⟨O,(iq (n:=0) O),k⟩
 refine AQ (AE (AA O (AJ O (kp [6] O) (WF.ret (λz A q s=>?_)))))
 cases E
 exact EU q s O O t ⟨O,x,k⟩
def NV (Q:St S L h) {b:Value}{k:A7}(j:Rd S h CI b k) {a:Int}(d:AD a) {c:Int}(i:AD c) {r:Int}(E:JB N k a c=some r):
 Ct prog 151 #[b,vI a,vI c] S h (λv S' h'=>v=vI r∧AD r∧St S' (L) h'):=by
 refine BO (l:=[b,vI a,vI c]) 23 func151 O ntmps151 O λB=>?_
 rw[JB] at E
 refine WF.sl (BM O j (λe=>by cases e) O Q λq1 S2 h3 g M m=>A5 1 (A4 O (A6 (AS (kp [3,1,2] O) (AC (AE (AV O m A7.f_Kind E6 O λq7 U=>AY BX g.1 O U AZ O λr9=>Cq O (AL (kp [9,3,1,2] O) (AW O E (λu E=>?_) (λu E=>?_))))))))))
 ·refine AE (AJ O (kp [6] O) (WF.ret (λV W w x=>?_)))
  cases E
  exact EU w x O O M ⟨O,(iq (n:=0) O),g⟩
 refine AQ (AC (WF.rc (.inr ⟨mo,by kernel_rfl⟩) g (AA O (AV O m A7.f_Num HL O λX y=>AY Bs g.1 O y AZ O λz=>AV O m A7.f_Den IE O λY A=>AY Bs g.1 O A AZ O λC=>?_))))
 obtain⟨Z,p,E⟩:=bd E
 refine Bz O O O Wn O (λh' o=>Mn (St.all h') d z C p) λD=>?_
 have ab:=D
 refine AA O (AV O m Hn I9 O λac F=>AY Bs g.1 O F AZ O λG=>AV O m Gr Il O λad H=>AY Bs g.1 O H AZ O λI=>?_)
 obtain⟨ae,s,E⟩:=bd E
 refine Bz O O O Wn O (λh' o=>Mn (St.all h') i G I s) λJ=>?_
 have af:=J
 refine FU O (A4 O (Bu (kp [6] O) λag t K=>WF.ret (λV W w x=>?_)))
 cases E
 exact EU w x O O (M.trans K) ⟨O,(CJ _),t⟩
def LM (hs:St S L h) {d:Value}{p:A7}(m:Rd S h CI d p) {a:Value}{g:AH}(i:Rd S h AM a g) {c:Value}{j:AH}(k:Rd S h AM c j) {r:AH}(E:Ho N p g j=some r):
 Ct prog 113 #[d,a,c] S h (λv S' h'=>v= .agg #[vI r.B,vI r.A]∧AH.ok r∧St S' (L) h'):=by
 refine BO (l:=[d,a,c]) 20 func113 O ntmps113 O λB=>?_
 rw[Ho] at E
 refine WF.sl (BM O m (λe=>by cases e) O hs λq1 S2 h3 J K k6=>BM O (i.mono K) (λe=>by cases e) O J λq8 S9 am u s M=>BM O (k.mono (K.trans s)) (λe=>by cases e) O u λan ao ap w t Q=>CX F7 O w λaq ar b n=>AS (kp [6,5,4,3] O) (AC (F6 13 mo (by kernel_rfl) O b ?_)))
 have x:=k6.mono (s.trans (t.trans n))
 refine BP Bs b.1 O x FC (λe=>by cases e) O λau U=>?_
 have y:=M.mono (t.trans n)
 refine AV O y AH.f_Lo EV O λav V=>AY Bs b.1 O V AZ O λW=>?_
 have z:=Q.mono n
 refine AV O z AH.f_Hi D2 O λaw X=>AY Bs b.1 O X AZ O λY=>?_
 obtain⟨C,D,E⟩:=bd E
 refine Bz O O O Wo O (λh' o=>NV (St.all h') (U.mono (o.all b.1)) W Y D) λZ=>?_
 have ab:=Z
 refine BP Bs b.1 O x FC (λe=>by cases e) O λax ac=>AV O y AH.f_Hi D2 O λay ad=>AY Bs b.1 O ad AZ O λae=>AV O z AH.f_Lo EV O λaz af=>AY Bs b.1 O af AZ O λag=>?_
 obtain⟨F,G,E⟩:=bd E
 refine Bz O O O Wo O (λh' o=>NV (St.all h') (ac.mono (o.all b.1)) ae ag G) λah=>?_
 have ai:=ah
 refine DB (cs:=[vI C,vI F]) Ip O O O (E0 λa0 H aj=>BU (vs:=[vI C,vI F]) O O O O BY O H .head O λa1 q ak=>AS (kp [6] O) (WF.ret (λaa ww hf hw=>?_)))
 have I:=q.drop .head
 cases E
 exact I1 hf O hw (IH (M2 hf hw q O mh BY O) Io) O (K.trans (s.trans (t.trans (n.trans (aj.trans ak))))) ⟨O,⟨ab,ai⟩,I⟩
def KP (y:St S L h) {b:Value}{a:AH}(c:Rd S h AM b a) {r:AH}(E:Gm N a=some r):
 Ct prog 112 #[b] S h (λv S' h'=>v= .agg #[vI r.B,vI r.A]∧AH.ok r∧St S' (L) h'):=by
 refine BO (l:=[b]) 10 func112 O ntmps112 O λB=>?_
 rw[Gm] at E
 refine WF.sl (BM O c (λe=>by cases e) O y λH I J m z C=>CX F7 O m λK M g i=>AS (kp [2,1] O) (WF.sl (A5 7 ?_)))
 have j:=C.mono i
 refine AV O j AH.f_Lo EV O λD o=>AY BX g.1 O o AZ O λp=>Jf O O O (AV O j AH.f_Hi D2 O λF s=>AY BX g.1 O s AZ O λt=>Jf O O O (DB (cs:=[vI (max 0 a.B),vI (max 0 a.A)]) Ip O O O (A6 (BU (vs:=[vI (max 0 a.B),vI (max 0 a.A)]) O O O O BY O g .head O λG d u=>AS (kp [2] O) (WF.ret (λQ U w x=>?_))))))
 have k:=d.drop .head
 cases E
 exact I1 w O x (IH (M2 w x d O mh BY O) Io) O (z.trans (i.trans u)) ⟨O,⟨(HI (iq (n:=0) O) p),(HI (iq (n:=0) O) t)⟩,k⟩
def LZ (W:St S L h) {c:Int}(g:AD c) {a:Value}{m:A7}(j:Pt S h CI a m) {b:Value}{c2_:AH}(k:Pt S h AM b c2_) {r:AH}(E:Dn N m c2_ c=some r):
 Ct prog 111 #[vI c,a,b] S h (λv S' h'=>v= .agg #[vI r.B,vI r.A]∧AH.ok r∧St S' (L) h'):=by
 refine BO (l:=[vI c,a,b]) 11 func111 O ntmps111 O λB=>?_
 rw[Dn] at E
 refine WF.sl (CX F7 O W λb1 h2 d u=>AS (kp [4,0,1,2] O) (AC (F6 6 mo (by kernel_rfl) O d (BP Bs d.1 O (j.mono u) FC (λe=>by cases e) O λv6 X=>AA O ?_))))
 obtain⟨Y,w,E⟩:=bd E
 refine Bz O O O Mr O (λh' o=>GP (St.all h') g w) λZ=>?_
 obtain⟨y,z⟩:=Z
 refine BP Bs d.1 O (k.mono u) BY (λe=>by cases e) O λab C=>?_
 obtain⟨D,n,E⟩:=bd E
 refine Bz O O O Wx O (λh' o=>LM (St.all h') (X.mono (o.all d.1)) (AM.mk (x:=Y) ⟨y,z⟩) (C.mono (o.all d.1)) n) λF=>?_
 obtain⟨G,H⟩:=F
 obtain⟨p,q,E⟩:=bd E
 refine Bz O O O Wy O (λh' o=>KP (St.all h') (AM.mk (x:=D) ⟨G,H⟩) q) λI=>?_
 obtain⟨J,K⟩:=I
 refine E0 λac s M=>BU (vs:=[vI p.B,vI p.A]) O O O O BY O s .head O λad i Q=>AS (kp [4] O) (WF.ret (λaa ww U V=>?_))
 have t:=i.drop .head
 cases E
 exact I1 U O V (IH (M2 U V i O mh BY O) Io) O (u.trans (M.trans Q)) ⟨O,⟨J,K⟩,t⟩
def Qs (hs:St S L h) {a:Value}{i:AH}(d:Rd S h AM a i) {b:Value}{j:AH}(g:Rd S h AM b j) {r:AH}(E:K6 N i j=some r):
 Ct prog 115 #[a,b] S h (λv S' h'=>v= .agg #[vI r.B,vI r.A]∧AH.ok r∧St S' (L) h'):=by
 refine BO (l:=[a,b]) 16 func115 O ntmps115 O λB=>?_
 rw[K6] at E
 refine WF.sl (BM O d (λe=>by cases e) O hs λq1 S2 h3 C e5 k6=>BM O (g.mono e5) (λe=>by cases e) O C λq8 S9 ab n p D=>CX F7 O n λac ad c m=>AS (kp [4,3,2] O) (AC (F6 11 mo (by kernel_rfl) O c ?_)))
 have q:=k6.mono (p.trans m)
 refine AV O q AH.f_Lo EV O λae F=>AY Bs c.1 O F AZ O λG=>?_
 have s:=D.mono m
 refine AV O s AH.f_Hi D2 O λaf H=>AY Bs c.1 O H AZ O λI=>?_
 obtain⟨t,u,E⟩:=bd E
 refine Bz O O O Jc O (λh' o=>Ek (St.all h') G I u) λJ=>?_
 have K:=J
 refine AV O q AH.f_Hi D2 O λag M=>AY Bs c.1 O M AZ O λQ=>AV O s AH.f_Lo EV O λah U=>AY Bs c.1 O U AZ O λV=>?_
 obtain⟨w,x,E⟩:=bd E
 refine Bz O O O Jc O (λh' o=>Ek (St.all h') Q V x) λW=>?_
 have X:=W
 refine DB (cs:=[vI t,vI w]) Ip O O O (E0 λai y Y=>BU (vs:=[vI t,vI w]) O O O O BY O y .head O λaj k Z=>AS (kp [4] O) (WF.ret (λaa ww hf hw=>?_)))
 have z:=k.drop .head
 cases E
 exact I1 hf O hw (IH (M2 hf hw k O mh BY O) Io) O (e5.trans (p.trans (m.trans (Y.trans Z)))) ⟨O,⟨K,X⟩,z⟩
def LY (hs:St S L h) {c:Int}(g:AD c) {a:Value}{m:A7}(j:Pt S h CI a m) {b:Value}{c2_:AH}(k:Pt S h AM b c2_) {r:AH}(E:Dm N m c2_ c=some r):
 Ct prog 114 #[vI c,a,b] S h (λv S' h'=>v= .agg #[vI r.B,vI r.A]∧AH.ok r∧St S' (L) h'):=by
 refine BO (l:=[vI c,a,b]) 13 func114 O ntmps114 O λB=>?_
 rw[Dm] at E
 refine WF.sl (CX F7 O hs λb1 h2 d z=>AS (kp [4,0,1,2] O) (AC (F6 8 mo (by kernel_rfl) O d ?_)))
 obtain⟨y5,C,E⟩:=bd E
 refine Bz O O O Mr O (λh' o=>GP (St.all h') (iq (n:=0) O) C) λr6=>?_
 obtain⟨r7,r8⟩:=r6
 refine BP Bs d.1 O (j.mono z) FC (λe=>by cases e) O λaf D=>BP Bs d.1 O (k.mono z) BY (λe=>by cases e) O λag F=>AA O ?_
 obtain⟨G,p,E⟩:=bd E
 refine Bz O O O Mr O (λh' o=>GP (St.all h') g p) λH=>?_
 obtain⟨I,J⟩:=H
 obtain⟨K,q,E⟩:=bd E
 refine Bz O O O Wx O (λh' o=>LM (St.all h') (D.mono (o.all d.1)) (F.mono (o.all d.1)) (AM.mk (x:=G) ⟨I,J⟩) q) λM=>?_
 obtain⟨Q,U⟩:=M
 obtain⟨V,s,E⟩:=bd E
 refine Bz O O O aI O (λh' o=>Qs (St.all h') (AM.mk (x:=y5) ⟨r7,r8⟩) (AM.mk (x:=K) ⟨Q,U⟩) s) λW=>?_
 obtain⟨X,Y⟩:=W
 obtain⟨t,u,E⟩:=bd E
 refine Bz O O O Wy O (λh' o=>KP (St.all h') (AM.mk (x:=V) ⟨X,Y⟩) u) λZ=>?_
 obtain⟨ab,ac⟩:=Z
 refine E0 λah w ad=>BU (vs:=[vI t.B,vI t.A]) O O O O BY O w .head O λai i ae=>AS (kp [4] O) (WF.ret (λaa ww hf hw=>?_))
 have y:=i.drop .head
 cases E
 exact I1 hf O hw (IH (M2 hf hw i O mh BY O) Io) O (z.trans (ad.trans ae)) ⟨O,⟨ab,ac⟩,y⟩
def LN (hs:St S L h) {c:Value}{d:EM}(u:Rd S h Cb c d) {j:Int}(y:AD j) {b:Int}(s:AD b) {r:Int×Int}(E:Hp N d j b=some r):
 Ct prog 117 #[c,vI j,vI b] S h (λv S' h'=>v= .tuple #[vI r.1,vI r.2]∧AD r.1∧AD r.2∧St S' (L) h'):=by
 refine BO (l:=[c,vI j,vI b]) 51 func117 O ntmps117 O λB=>?_
 rw[Hp] at E
 refine WF.sl (BM O u (λe=>by cases e) O hs λq1 M h3 A Q K=>A5 2 (A4 O (A4 O (A6 (AS (kp [3,1,2] O) (AC (WF.rc (.inl O) A (AA O (AV O K EM.f_Num Q9 O λq7 k8=>AY Bs A.1 O k8 AZ O λr9=>AV O K EM.f_Den KR O λaf U=>AY Bs A.1 O U AZ O λV=>?_)))))))))
 obtain⟨i,I,E⟩:=bd E
 refine Hk (v:= .tuple #[vI i.1,vI i.2.1,.bool i.2.2]) (Ψ:=AD i.1∧AD i.2.1) O O O RK O (λh' o=>(IZ (St.all h') y r9 V I).mono λ_ _ _ _ p=>⟨p.1,⟨p.2.1,p.2.2.1⟩⟩) λW=>?_
 obtain⟨X,ag⟩:=W
 refine AA O (De O (De O (De O (A4 O (A4 O (A4 O (Bu (kp [10,9,8,3,2] O) λC k x=>AC (AE (AA O (BT O (AL (kp [23,9,8,3,2] O) (AW O E (λY E=>?_) (λY E=>?_)))))))))))))
 ·refine AE (A4 O (AJ O (kp [7,6] O) (WF.ret (λF G g t=>?_))))
  cases E
  exact I1 g O t (IH (LV g (v:=_) O) (IH (LV g (v:=_) O) Io)) O (Q.trans x) ⟨O,(iq (n:=0) O),(iq (n:=0) O),k⟩
 refine AQ (AE (AJ O (kp [11,9,8,3,2] O) (AC (AE (AA O (EQ O (AA O (AO 5 31 (.bool ((decide (0≤b))&&(decide (b<d.H)))) ?_ ?_))))))))
 ·cases ah:(decide (0≤b))
  ·exact AX O O
  exact AB O (AA O (AB O (AV O (K.mono x) EM.f_Den KR O λai Z=>AB O (AY BX k.1 O Z AZ O λaj=>AB O (BE O (AI O (AN O)))))))
 refine AL (kp [31,11,9,8,3,2] O) (HW (λa w=>∃(z:Int),IV B M C (51,[]) a w [(9,vI i.2.1),(8,vI i.1),(3,q1),(11,vI z)] (L) λ_ _=>AD z∧HO N d i z=some r) ?_ ?_)
 ·refine AW O E (λab E=>?_) (λab E=>?_)
  ·refine CL (.inl O) (AA O (AJ O (kp [11,9,8,3] O) (WF.nil (λF G g t=>?_))))
   exact⟨b,_,_,g.sub (kp [9,8,3,11] O),t,k,(Cm.refl M C),s,E⟩
  refine AQ (WF.nil (λF G g t=>?_))
  exact⟨0,_,_,g.sub (kp [9,8,3,11] O),t,k,(Cm.refl M C),(iq (n:=0) O),E⟩
 rintro F G ⟨z,ak,al,g,t,m,D,am,E⟩
 refine A8 ?_ g t
 clear g t G F
 rw[HO] at E
 refine AC (AE (AA O (AA O (BD O ?_))))
 have J:=K.mono (x.trans D)
 refine AV O J EM.f_Den KR O λan ac=>AY BX m.1 O ac AZ O λao=>BE O (AL (kp [38,9,8,3,11] O) (AW O E (λad E=>?_) (λad E=>?_)))
 ·refine AE (AA O (AA O (AA O (BD O (A4 O (AJ O (kp [7,6] O) (WF.ret (λF G g t=>?_))))))))
  cases E
  exact I1 g O t (IH (LV g (v:=_) O) (IH (LV g (v:=_) O) Io)) O (Q.trans (x.trans D)) ⟨O,X,(CJ _),m⟩
 refine AQ (AC (CL (.inr ⟨mo,by kernel_rfl⟩) (AA O (BD O (AA O (AA O (BD O (AV O J EM.f_Den KR O λap ae=>AY BX m.1 O ae AZ O λaq=>FU O (A4 O (AJ O (kp [7,6] O) (WF.ret (λF G g t=>?_))))))))))))
 cases E
 exact I1 g O t (IH (LV g (v:=_) O) (IH (LV g (v:=_) O) Io)) O (Q.trans (x.trans D)) ⟨O,(CJ _),(CJ _),m⟩
def LX (V:St S L h) {b:Int}(c:AD b) {a:Value}{s:EM}(j:Pt S h Cb a s) {r:AH}(E:DT N s b=some r):
 Ct prog 116 #[vI b,a] S h (λv S' h'=>v= .agg #[vI r.B,vI r.A]∧AH.ok r∧St S' (L) h'):=by
 refine BO (l:=[vI b,a]) 26 func116 O ntmps116 O λB=>?_
 rw[DT] at E
 refine WF.sl (CX F7 O V λb1 h2 k K=>AS (kp [3,0,1] O) (AC (WF.rc (.inl O) k ?_)))
 have M:=j.mono K
 refine BP Bs k.1 O M KO (λe=>by cases e) O λv6 W=>AA O ?_
 obtain⟨m,z,E⟩:=bd E
 refine Hk (v:= .tuple #[vI m.1,vI m.2]) (Ψ:=AD m.1∧AD m.2) O O O Ww O (λh' o=>(LN (St.all h') (W.mono (o.all k.1)) c (iq (n:=0) O) z).mono λ_ _ _ _ p=>⟨p.1,⟨p.2.1,p.2.2.1⟩⟩) λX=>?_
 obtain⟨C,Y⟩:=X
 refine AA O (De O (De O (A4 O (A4 O (Bu (kp [4,3,0,1] O) λZ d t=>AC (WF.rc (.inl O) d ?_))))))
 have u:=M.mono t
 refine BP Bs d.1 O u KO (λe=>by cases e) O λab D=>AA O (AV O u EM.f_Den KR O λac F=>AY Bs d.1 O F AZ O λad=>FU O ?_)
 obtain⟨g,w,E⟩:=bd E
 refine Hk (v:= .tuple #[vI g.1,vI g.2]) (Ψ:=AD g.1∧AD g.2) O O O Ww O (λh' o=>(LN (St.all h') (D.mono (o.all d.1)) c (CJ _) w).mono λ_ _ _ _ p=>⟨p.1,⟨p.2.1,p.2.2.1⟩⟩) λG=>?_
 obtain⟨H,ae⟩:=G
 refine AA O (De O (De O (A4 O (A4 O (Bu (kp [6,4,3] O) λaf x I=>WF.sl (A5 3 (AA O (AA O (DB (cs:=[vI m.1,vI g.1]) Ip O O O (A6 (BU (vs:=[vI m.1,vI g.1]) O O O O BY O x .head O λag i J=>AS (kp [3] O) (WF.ret (λaa ww Q U=>?_)))))))))))))
 have y:=i.drop .head
 cases E
 exact I1 Q O U (IH (M2 Q U i O mh BY O) Io) O (K.trans (t.trans (I.trans J))) ⟨O,⟨C,H⟩,y⟩
def Mi {s:Nat}{p0_w:BS}{U:Value}{X:Value}{t:Value}{ab:Value}{ac:Value}{ad:Value}{ae:Value}{af:Value}{g:Value}{j:Value}{k:Value}{d:Value}(hs:St S (Bx s 106 [.string p0_w.b.J,U,vI p0_w.b.W,X,t,ab,ac,ad,ae,af,vI p0_w.b.Z,vI p0_w.h.K,g,j,k,d]::OS AM 51 g p0_w.h.M::OS Ce 93 j p0_w.h.S::OS BK 97 k p0_w.h.F::OS AM 51 d p0_w.peaks::L) h) (fp:p0_w.b.J.size≤maxLen) (b0:Sl S h B7.str U p0_w.b.Ar) (fq:AD p0_w.b.W) (an:Sl S h Cb X p0_w.b.D) (b2:Sl S h CI t p0_w.b.F) (fr:Sl S h Fi ab p0_w.b.Ac) (fs:Sl S h Ez ac p0_w.b.Am) (ft:Sl S h GN ad p0_w.b.An) (fu:Sl S h Dr ae p0_w.b.Aq) (fv:Sl S h BQ af p0_w.b.Ap) (dy:AD p0_w.b.Z) (dz:AD p0_w.h.K) {z:Int}(je:AD z) {ah:Value}{ai:(List II)}(aw:Sl S h Hq ah ai) {r:(List A0)}(E:Gy N p0_w z ai=some r):
 Ct prog 53 #[vP s 0,vI z,ah] S h (λv S' h'=>St S' (OS C9 181 v r::Bx s 106 [.string p0_w.b.J,U,vI p0_w.b.W,X,t,ab,ac,ad,ae,af,vI p0_w.b.Z,vI p0_w.h.K,g,j,k,d]::OS AM 51 g p0_w.h.M::OS Ce 93 j p0_w.h.S::OS BK 97 k p0_w.h.F::OS AM 51 d p0_w.peaks::L) h'):=by
 refine BO (l:=[vP s 0,vI z,ah]) 210 func53 O ntmps53 O λB=>?_
 rw[Gy] at E
 refine AE (AJ O (kp [0,1,2] O) (AE (AJ O (kp [7,0,1,2] O) (AC (AE (AA O (BJ O aw Va O λb1=>AA O (AL (kp [19,18,17,7,0,1] O) (BG (λa w=>∃(v2:Value) (l3:List A0),IV B S h (210,[]) a w [(0,vP s 0),(1,vI z),(7,v2)] (OS C9 181 v2 l3::Bx s 106 [.string p0_w.b.J,U,vI p0_w.b.W,X,t,ab,ac,ad,ae,af,vI p0_w.b.Z,vI p0_w.h.K,g,j,k,d]::OS AM 51 g p0_w.h.M::OS Ce 93 j p0_w.h.S::OS BK 97 k p0_w.h.F::OS AM 51 d p0_w.peaks::L) λ_ _=>CQ N p0_w z l3=some r) ?_ ?_)))))))))
 ·refine Bt (λn1=>λa w=>∃(v8:Value) (l9:List A0) (be:Int),IV B S h (210,[]) a w [(18,vI (↑ai.length:Int)),(17,ah),(0,vP s 0),(1,vI z),(7,v8),(19,vI be)] (OS C9 181 v8 l9::Bx s 106 [.string p0_w.b.J,U,vI p0_w.b.W,X,t,ab,ac,ad,ae,af,vI p0_w.b.Z,vI p0_w.h.K,g,j,k,d]::OS AM 51 g p0_w.h.M::OS Ce 93 j p0_w.h.S::OS BK 97 k p0_w.h.F::OS AM 51 d p0_w.peaks::L) λ_ _=>AD be∧CA N p0_w z ai (CQ N p0_w z) n1 l9 be=some r) N ?_ ?_ ?_
  ·intro aa ww hf hw
   have fw:=hs.nil C9 181
   exact⟨(vN),([]:List A0),0,_,_,hf.sub (kp [18,17,0,1,7,19] O),hw,fw,(Cm.refl S h),(iq (n:=0) O),E⟩
  ·rintro aa ww ⟨_,_,_,_,_,_,_,_,_,_,E⟩
   rw[CA] at E;cases E
  rintro n1 aa ww ⟨v8,l9,be,jf,jg,hf,hw,b5,b3,lx,E⟩
  refine A8 ?_ hf hw
  clear hf hw ww aa
  rw[CA] at E
  refine AE (BE O (AL (kp [20,18,17,0,1,7,19] O) (AC (AW O E (λjh E=>?_) (λjh E=>?_)))))
  ·refine AQ (AC (BG (λa w=>∃(c3:Value) (c4:List A0),IV B jf jg (210,[]) a w [(18,vI (↑ai.length:Int)),(17,ah),(0,vP s 0),(1,vI z),(19,vI be),(7,c3)] (OS C9 181 c3 c4::Bx s 106 [.string p0_w.b.J,U,vI p0_w.b.W,X,t,ab,ac,ad,ae,af,vI p0_w.b.Z,vI p0_w.h.K,g,j,k,d]::OS AM 51 g p0_w.h.M::OS Ce 93 j p0_w.h.S::OS BK 97 k p0_w.h.F::OS AM 51 d p0_w.peaks::L) λ_ _=>FK N be (CA N p0_w z ai (CQ N p0_w z) n1) c4=some r) ?_ ?_))
   ·refine WF.sl (A5 2 ?_)
    obtain⟨ar,fx,E⟩:=bd E
    refine B6 O O (aw.mono' b3) Va fx O λly ji=>BP BX b5.1 O ji VO (λe=>by cases e) O λlz jj=>A6 (CX ZA O b5 λc5 l0 fy bf=>?_)
    obtain⟨rfl,⟨jk,fz,jl,d0⟩⟩:=Hq.ex (jj.mono bf)
    refine BU (vs:=[vI ar.Ah,vI ar.Bm,vI ar.As,vI ar.E]) O O O O VO O fy .head O λl1 a9 b4=>AS (kp [9,18,17,0,1,7,19] O) (AC (AC (WF.rc (.inr ⟨mo,by kernel_rfl⟩) a9 (AF WD O (AT Bs a9 O mh O AZ O (AA O (Cq O (AA O ?_))))))))
    obtain⟨d1,ax,E⟩:=bd E
    refine AO 11 38 (.bool d1) ?_ ?_
    ·cases f0:(decide (ar.Ah≠z))
     ·have ax:=GY f0 ax
      refine AB O (AF WC O (AB O (AT Bs a9 O mh O AZ O (AB O (AA O (AB O (FV O O (AB O (AF HK O (AB O (AF O2 O (AB O (AT Bs a9 O (mt (mt mh)) O Tl O (AB O (BJ O (b0.mono' (b3.trans (bf.trans b4))) Rz O λjm=>AB O ?_)))))))))))))))
      obtain⟨l2,f1,ax⟩:=bd ax
      refine BL O O O Sf O (λh' o=>H0 (St.all h') fz (LW jm) f1) (AB O (BT O (AI O ?_)))
      cases ax
      exact AN O
     have ax:=GX f0 ax
     cases ax
     exact AX O O
    refine AA O (AO 4 43 (.bool (d1||(decide (ar.As≤0)))) ?_ ?_)
    ·cases l4:d1
     ·exact AB O (AF SJ O (AB O (AT Bs a9 O mh O AZ O (AB O (HC O (AI O (AN O)))))))
     exact AX O O
    refine Bu (kp [43,9,18,17,0,1,7,19] O) λl5 ao b6=>AW O E (λjn E=>?_) (λjn E=>?_)
    ·refine WF.exit O (λaa ww hf hw=>?_)
     have f2:=ao.sel [1,1,1,1,1,1] 1 O
     exact⟨v8,l9,_,_,hf.sub (kp [18,17,0,1,19,7] O),hw,f2,(bf.trans (b4.trans b6)),E⟩
    refine AQ (AC (AC (WF.rc (.inr ⟨mo,by kernel_rfl⟩) ao (AF Nk O (AT Bs ao O mh O AZ O (Cq O (AA O ?_)))))))
    obtain⟨jo,ap,E⟩:=bd E
    refine AO 33 80 (.bool jo) ?_ ?_
    ·cases f3:(decide (ar.E≠(-1)))
     ·have ap:=GY f3 ap
      cases ap
      exact AX O O
     have ap:=GX f3 ap
     refine AB O (AF Nk O (AB O (AT Bs ao O mh O AZ O (AB O (AA O (AB O (FV O O (AB O (AF HK O (AB O (AF En O (AB O (AT Bs ao O (mt (mt mh)) O HD O (AB O (BJ O (an.mono' (b3.trans (bf.trans (b4.trans b6)))) Ga O λjp=>AB O ?_)))))))))))))))
     obtain⟨jq,f4,ap⟩:=bd ap
     refine BL O O O Sf O (λh' o=>H0 (St.all h') d0 (LW jp) f4) (AB O (BT O (AB O (AA O ?_))))
     obtain⟨jr,aq,ap⟩:=bd ap
     refine AO 21 79 (.bool jr) ?_ ?_
     ·cases f5:(!jq)
      ·have aq:=GY f5 aq
       refine AB O (AA O (AB O (FV O O (AB O (AF HK O (AB O (AF En O (AB O (AT Bs ao O (mt (mt mh)) O HD O (AB O (AF Nk O (AB O (AT Bs ao O mh O AZ O (AB O ?_))))))))))))))
       have c6:=b3.trans (bf.trans (b4.trans b6))
       obtain⟨l6,f6,aq⟩:=bd aq
       refine B6 O O (an.mono' c6) Ga f6 O λl7 js=>AB O (AV O js Hm K4 O λl8 jt=>AB O (AY Bs ao.1 O jt AZ O λma=>AB O (AA O (AB O (FV O O (AB O (AF HK O (AB O (AF En O (AB O (AT Bs ao O (mt (mt mh)) O HD O (AB O (AA O (AB O ?_))))))))))))))
       obtain⟨mb,f7,aq⟩:=bd aq
       refine B6 O O (an.mono' c6) Ga f7 O λmc ju=>AB O (AV O ju Hm K4 O λmd jv=>AB O (AY Bs ao.1 O jv AZ O λme=>AB O (Cq O (AB O (AI O ?_)))))
       cases aq
       exact AN O
      have aq:=GX f5 aq
      cases aq
      exact AX O O
     refine AI O ?_
     cases ap
     exact AN O
    refine Bu (kp [80,9,18,17,0,1,7,19] O) λjw b7 f8=>AW O E (λjx E=>?_) (λjx E=>?_)
    ·refine WF.exit O (λaa ww hf hw=>?_)
     have f9:=b7.sel [1,1,1,1,1,1] 1 O
     exact⟨v8,l9,_,_,hf.sub (kp [18,17,0,1,19,7] O),hw,f9,(bf.trans (b4.trans (b6.trans f8))),E⟩
    refine AQ (Gf (A5 5 (AA O (AF Nk O (AT BX b7 O mh O AZ O (KD O O O (DB (cs:=[vI ar.E,vI 0,vI 0,.func (.func 108) #[] #[vP c5 0]]) PB O O O (A6 ?_))))))))
    obtain⟨jy,ga,jz,j0⟩:=b7.pubb (r:=Hq) (x:=ar) .head ⟨O,⟨jk,fz,jl,d0⟩⟩
    have gb:Rd jy jw (B7.fn prog (λx:Int=>([vI x]:List Value)) (λx:Int=>AD x) (λy:AH=> .agg #[vI y.B,vI y.A]) (λy:AH=>AH.ok y)) (.func (.func 108) #[] #[(vP c5 0)]) (λx=>Dp N ar x):=LB 108 #[(vP c5 0)] aN λS' h' s' e' L hs x y h1 h2=>(Lb hs h1 (j0.mono'' s' e') h2).mono λ_ _ _ _ p=>p
    refine JF (cs:=[vI ar.E,vI 0,vI 0,(.func (.func 108) #[] #[(vP c5 0)])]) Kc O O O O O O O ga λmf mg gc ge=>?_
    obtain⟨gf,E⟩:=TW E
    refine LH (r:=C9) (l:=l9) (xs:=([(⟨ar.E,0,0,(λx=>Dp N ar x)⟩:A0)]:List A0)) O O Kc O mh ⟨_,_,O,⟨_,O,d0,(iq (n:=0) O),(iq (n:=0) O),(gb.mono ge)⟩,O⟩ O O gf O gc (λ_=>(.tail .head)) λj1 mi gg j2=>?_
    have gh:=gg.drop .head
    refine A5 1 (A4 O (A6 (AS (kp [7,18,17,0,1,19] O) (WF.nil (λaa ww hf hw=>?_)))))
    exact⟨j1,(l9++([(⟨ar.E,0,0,(λx=>Dp N ar x)⟩:A0)]:List A0)),_,_,hf.sub (kp [18,17,0,1,19,7] O),hw,gh,(bf.trans (b4.trans (b6.trans (f8.trans (jz.trans (ge.trans j2)))))),E⟩
   rintro aa ww ⟨c3,c4,j3,j4,hf,hw,d2,gi,E⟩
   refine A8 ?_ hf hw
   clear hf hw ww aa
   rw[FK] at E
   refine CL (.inl O) (BD O (AA O (AL (kp [19,18,17,0,1,7] O) (WF.nil (λaa ww hf hw=>?_)))))
   exact⟨c3,c4,(B8 (be+1)),_,_,hf.sub (kp [18,17,0,1,7,19] O),hw,d2,(b3.trans gi),(CJ _),E⟩
  refine WF.exit O (λaa ww hf hw=>?_)
  exact⟨v8,l9,_,_,hf.sub (kp [0,1,7] O),hw,b5,b3,E⟩
 rintro aa ww ⟨v2,l3,b8,b9,hf,hw,ca,cb,E⟩
 refine A8 ?_ hf hw
 clear hf hw ww aa
 rw[CQ] at E
 refine AC (AE (AA O (FV O O (AF HK O (AF Gu O (AT BX ca O (mt mh) O JP O ?_))))))
 have c7:=b2.mono' cb
 refine BJ O c7 Ht O λj5=>AA O (AL (kp [95,94,93,0,1,7] O) (BG (λa w=>∃(bo:Value) (a4:List A0),IV B b8 b9 (210,[]) a w [(0,vP s 0),(1,vI z),(7,bo)] (OS C9 181 bo a4::Bx s 106 [.string p0_w.b.J,U,vI p0_w.b.W,X,t,ab,ac,ad,ae,af,vI p0_w.b.Z,vI p0_w.h.K,g,j,k,d]::OS AM 51 g p0_w.h.M::OS Ce 93 j p0_w.h.S::OS BK 97 k p0_w.h.F::OS AM 51 d p0_w.peaks::L) λ_ _=>CZ N p0_w z a4=some r) ?_ ?_))
 ·refine Bt (λn4=>λa w=>∃(av:Value) (ak:List A0) (am:Int),IV B b8 b9 (210,[]) a w [(94,vI (↑p0_w.b.F.length:Int)),(93,t),(0,vP s 0),(1,vI z),(7,av),(95,vI am)] (OS C9 181 av ak::Bx s 106 [.string p0_w.b.J,U,vI p0_w.b.W,X,t,ab,ac,ad,ae,af,vI p0_w.b.Z,vI p0_w.h.K,g,j,k,d]::OS AM 51 g p0_w.h.M::OS Ce 93 j p0_w.h.S::OS BK 97 k p0_w.h.F::OS AM 51 d p0_w.peaks::L) λ_ _=>AD am∧B1 N p0_w z (CZ N p0_w z) n4 ak am=some r) N ?_ ?_ ?_
  ·intro aa ww hf hw
   exact⟨v2,l3,0,_,_,hf.sub (kp [94,93,0,1,7,95] O),hw,ca,(Cm.refl b8 b9),(iq (n:=0) O),E⟩
  ·rintro aa ww ⟨_,_,_,_,_,_,_,_,_,_,E⟩
   rw[B1] at E;cases E
  rintro n4 aa ww ⟨av,ak,am,ba,gj,hf,hw,bg,cc,j6,E⟩
  refine A8 ?_ hf hw
  clear hf hw ww aa
  rw[B1] at E
  refine AE (BE O (AL (kp [96,94,93,0,1,7,95] O) (AC (AW O E (λgk E=>?_) (λgk E=>?_)))))
  ·refine AQ (AC (BG (λa w=>∃(bp:Value) (bq:List A0),IV B ba gj (210,[]) a w [(94,vI (↑p0_w.b.F.length:Int)),(93,t),(0,vP s 0),(1,vI z),(95,vI am),(7,bp)] (OS C9 181 bp bq::Bx s 106 [.string p0_w.b.J,U,vI p0_w.b.W,X,t,ab,ac,ad,ae,af,vI p0_w.b.Z,vI p0_w.h.K,g,j,k,d]::OS AM 51 g p0_w.h.M::OS Ce 93 j p0_w.h.S::OS BK 97 k p0_w.h.F::OS AM 51 d p0_w.peaks::L) λ_ _=>C8 N am (B1 N p0_w z (CZ N p0_w z) n4) bq=some r) ?_ ?_))
   ·refine WF.sl (A5 3 (AA O ?_))
    obtain⟨c,d3,E⟩:=bd E
    refine B6 O O (c7.mono' cc) Ht d3 O λj7 gl=>BP BX bg.1 O gl FC (λe=>by cases e) O λj8 gm=>A6 (CX Mx O bg λag j9 d4 bb=>A5 1 (A4 O (A6 ?_)))
    obtain⟨cd,ce,cf,rfl,cg,ch,bc,a5,br,bs,bt,ci,cj,ck,cl,cm,cn,co,cp,cq,cr,a6⟩:=CI.ex (gm.mono bb)
    refine IR (vs:=[.string c.J,vI c.C,vI c.I,vI c.E,cd,ce,cf,vI c.Q,vI c.Ab,vI c.Ad,vI c.O,vI c.N,vI c.H,vI c.Ak,vI c.Ae,vI c.Aa,vI c.Y,vI c.V]) (cs':=[.string c.J,vI c.C,vI c.I,vI c.E,cd,ce,cf,vI c.Q,vI c.Ab,vI c.Ad,vI c.O,vI c.N,vI c.H,vI c.Ak,vI c.Ae,vI c.Aa,vI c.Y,vI c.V]) O O O (AG O (AG O (AG O (AG O (AG br.one (AG bs.one (AG bt.one (AG O (AG O (AG O (AG O (AG O (AG O (AG O (AG O (AG O (AG O (AG O GJ)))))))))))))))))) FC O d4 .head O O λc8 u a2=>AS (kp [10,11,94,93,0,1,7,95] O) (BW (AE (AF H1 O (AT BX u O mh O AZ O (AA O (CR O (AA O (AO 4 109 (.bool ((decide (c.I=z))&&(decide (c.C≠4)))) ?_ ?_))))))))
    ·cases ka:(decide (c.I=z))
     ·exact AX O O
     exact AB O (AF E6 O (AB O (AT BX u O mh O AZ O (AB O (Cq O (AI O (AN O)))))))
    refine AJ O (kp [100,10,11,94,93,0,1,7,95] O) (AW O E (λgn E=>?_) (λgn E=>?_))
    ·refine WF.sl (A5 9 (AA O (FV O O (AF Fd O (AF IU O (AT BX u O (mt (mt mh)) O LK O (AA O ?_)))))))
     obtain⟨kb,d5,E⟩:=bd E
     refine DN u (mt (mt (mt (mt (mt mh))))) O O Lo d5 O λkc d6=>?_
     obtain⟨aj,d7,E⟩:=bd E
     have gp:=u.epAt (mt (mt (mt (mt (mt mh))))) d7 Fm.id d6
     refine BP BX (λ_ x=>x) O gp IG (λe=>by cases e) O λkd gq=>DB (cs:=[vI 0,vI 0]) Ip O O O (A6 (CX Th O u λa7 ke d8 ct=>CX F7 O d8 λa8 kf d9 cu=>?_))
     obtain⟨rfl,⟨gr,gs,gu,gv,gw⟩⟩:=BK.ex (gq.mono (ct.trans cu))
     refine BU (vs:=[vI aj.P.B,vI aj.P.A,vI aj.T,vI aj.R.B,vI aj.R.A]) O O O O IG O d9 (.tail .head) O λkg ea c9=>BU (vs:=[vI 0,vI 0]) O O O O BY O ea .head O λda au db=>AS (kp [13,12,11,94,93,0,1,7,95] O) (AC (AE (AF Gb O (AT BX au O (mt (mt mh)) O AZ O (Cq O (AL (kp [121,13,12,11,94,93,0,1,7,95] O) (HW (λa w=>∃(ay:Int) (az:Int),IV B ba da (210,[]) a w [(13,vP a8 0),(12,vP a7 0),(11,vP ag 0),(94,vI (↑p0_w.b.F.length:Int)),(93,t),(0,vP s 0),(1,vI z),(7,av),(95,vI am)] (Bx a8 51 [vI ay,vI az]::Bx a7 97 [vI aj.P.B,vI aj.P.A,vI aj.T,vI aj.R.B,vI aj.R.A]::Bx ag 102 [.string c.J,vI c.C,vI c.I,vI c.E,cd,ce,cf,vI c.Q,vI c.Ab,vI c.Ad,vI c.O,vI c.N,vI c.H,vI c.Ak,vI c.Ae,vI c.Aa,vI c.Y,vI c.V]::OS C9 181 av ak::Bx s 106 [.string p0_w.b.J,U,vI p0_w.b.W,X,t,ab,ac,ad,ae,af,vI p0_w.b.Z,vI p0_w.h.K,g,j,k,d]::OS AM 51 g p0_w.h.M::OS Ce 93 j p0_w.h.S::OS BK 97 k p0_w.h.F::OS AM 51 d p0_w.peaks::L) λ_ _=>AD ay∧AD az∧F2 N ak c aj (C8 N am (B1 N p0_w z (CZ N p0_w z) n4)) ay az=some r) ?_ ?_)))))))
     ·refine AW O E (λgx E=>?_) (λgx E=>?_)
      ·refine Po 8 mo (by kernel_rfl) O (AA O (FV O O (AF HJ O (AT BX au O (mt (mt (mt (mt mh)))) O IK O (AF Gb O (AT BX au O (mt (mt mh)) O AZ O ?_))))))
       obtain⟨kh,eb,E⟩:=bd E
       refine DN au (mt (mt (mt (mt (mt (mt (mt (mt mh)))))))) O O Gs eb O λki ec=>?_
       obtain⟨bu,ed,E⟩:=bd E
       have gy:=au.epAt (mt (mt (mt (mt (mt (mt (mt (mt mh)))))))) ed Fm.id ec
       refine BP BX (λ_ x=>x) O gy BY (λe=>by cases e) O λkj gz=>A6 ?_
       obtain⟨rfl,⟨g0,g1⟩⟩:=AM.ex gz
       refine BU (vs:=[vI bu.B,vI bu.A]) O O O O BY O au .head O λkk ee g2=>AS (kp [13,12,11,94,93,0,1,7,95] O) (WF.nil (λaa ww hf hw=>?_))
       exact⟨bu.B,bu.A,_,_,hf.sub (kp [13,12,11,94,93,0,1,7,95] O),hw,ee,g2,g0,g1,E⟩
      refine AQ (WF.nil (λaa ww hf hw=>?_))
      exact⟨0,0,_,_,hf.sub (kp [13,12,11,94,93,0,1,7,95] O),hw,au,(Cm.refl ba da),(iq (n:=0) O),(iq (n:=0) O),E⟩
     rintro aa ww ⟨ay,az,kl,g3,hf,hw,bh,dc,g4,g5,E⟩
     refine A8 ?_ hf hw
     clear hf hw ww aa
     rw[F2] at E
     refine Gf (A5 7 (AA O (AF Gb O (AT BX bh O (mt (mt mh)) O AZ O (AF MW O (AT BX bh O (mt (mt mh)) O AZ O (KD O O O (DB (cs:=[vI c.E,vI c.V,vI 2,.func (.func 109) #[] #[vP ag 0,vP a7 0,vP a8 0]]) PB O O O (A6 ?_)))))))))
     have bi:=a2.trans (ct.trans (cu.trans (c9.trans (db.trans dc))))
     obtain⟨km,ef,g6,g7⟩:=bh.pubb (r:=CI) (x:=c) (.tail (.tail .head)) ⟨_,_,_,O,cg,ch,bc,a5,(br.mono' bi),(bs.mono' bi),(bt.mono' bi),ci,cj,ck,cl,cm,cn,co,cp,cq,cr,a6⟩
     obtain⟨kn,eg,dd,g8⟩:=ef.pubb (r:=BK) (x:=aj) (.tail .head) ⟨O,⟨gr,gs,gu,gv,gw⟩⟩
     obtain⟨g9,eh,cv,ha⟩:=eg.pubb (r:=AM) (x:=(⟨ay,az⟩:AH)) .head ⟨O,⟨g4,g5⟩⟩
     have ei:Rd g9 g3 (B7.fn prog (λx:Int=>([vI x]:List Value)) (λx:Int=>AD x) (λy:AH=> .agg #[vI y.B,vI y.A]) (λy:AH=>AH.ok y)) (.func (.func 109) #[] #[(vP ag 0),(vP a7 0),(vP a8 0)]) (λx=>Do N c aj (⟨ay,az⟩:AH) x):=LB 109 #[(vP ag 0),(vP a7 0),(vP a8 0)] aM λS' h' s' e' L hs x y h1 h2=>(La hs h1 ((g7.mono (dd.trans cv)).mono'' s' e') ((g8.mono cv).mono'' s' e') (ha.mono'' s' e') h2).mono λ_ _ _ _ p=>p
     refine JF (cs:=[vI c.E,vI c.V,vI 2,(.func (.func 109) #[] #[(vP ag 0),(vP a7 0),(vP a8 0)])]) Kc O O O O O O O eh λko kq ej de=>?_
     obtain⟨ek,E⟩:=TW E
     refine LH (r:=C9) (l:=ak) (xs:=([(⟨c.E,c.V,2,(λx=>Do N c aj (⟨ay,az⟩:AH) x)⟩:A0)]:List A0)) O O Kc O mh ⟨_,_,O,⟨_,O,a5,a6,(iq (n:=2) O),(ei.mono de)⟩,O⟩ O O ek O ej (λ_=>(.tail .head)) λhc kr el hd=>?_
     have em:=el.drop .head
     refine A5 1 (A4 O (A6 (AS (kp [7,94,93,0,1,95] O) (B0 (WF.nil (λaa ww hf hw=>?_))))))
     exact⟨hc,(ak++([(⟨c.E,c.V,2,(λx=>Do N c aj (⟨ay,az⟩:AH) x)⟩:A0)]:List A0)),_,_,hf.sub (kp [94,93,0,1,95,7] O),hw,em,(bb.trans (a2.trans (ct.trans (cu.trans (c9.trans (db.trans (dc.trans (g6.trans (dd.trans (cv.trans (de.trans hd))))))))))),E⟩
    refine AE (AF H1 O (AT BX u O mh O AZ O (AA O (CR O (AJ O (kp [139,11,94,93,0,1,7,95] O) (AW O E (λhe E=>?_) (λhe E=>?_)))))))
    ·refine AC ?_
     obtain⟨ks,en,E⟩:=bd E
     obtain⟨a0,eo,E⟩:=bd E
     refine Sm (m:=[(11,vP ag 0),(94,vI (↑p0_w.b.F.length:Int)),(93,t),(0,vP s 0),(1,vI z),(7,av),(95,vI am)]) 9 (λi v hh=>match i with|0=>v=vP s 0|1=>v=vP s 0|2=>v=vP s 15|3=>v=d|4=>v=vP ag 3|5=>v=vI c.E∧AD c.E|6=>EP d (c.E.toNat*(AM).sz+0) v|7=>Rd ba hh AM v a0|8=>Qj c8 51 [vI 0,vI 0] v hh|_=>False) [[],[(0,144)],[(1,145)],[(2,146)],[],[(4,148)],[(3,147),(5,149)],[(6,150)],[]] [(7,151),(8,14)] mo (by kernel_rfl) [11,94,93,0,1,7,95] O (by kernel_rfl) (by kernel_rfl) (by kernel_rfl) (kp [11,94,93,0,1,7,95] O) (λi v h1 h2 o1 o2 hr=>?_) ?_ ?_
     ·match i,hr with
       |0,hr|1,hr|2,hr|3,hr|4,hr|5,hr|6,hr=>exact hr
       |7,hr=>exact Rd.mono hr (o2.ext λb hb=>iY (u.1 b hb) o1.siz)
       |8,hr=>exact hr.mono o2
       |_+9,hr=>exact hr.elim
     ·refine DU.cons O (λ_ _ _=>A5 1 (AA O (BF O))) (DU.cons O (λ_ _ _ _ hg=>by cases hg;exact A5 1 (FV O O (BF O))) (DU.cons O (λ_ _ _ _ hi=>by cases hi;exact A5 1 (AF HJ O (BF O))) (DU.cons O (λ_ _ o _ hj=>by cases hj;exact A5 1 (AT BX (o.st u) O (mt (mt mh)) O IK O (BF O))) (DU.cons O (λ_ _ _=>A5 1 (AF Gb O (BF O))) (DU.cons O (λ_ _ o _ hk=>by cases hk;exact A5 1 (AT BX (o.st u) O mh O AZ O (BF ⟨O,a5⟩))) (DU.cons O (λ_ _ o=>by intro kt hl ku hm;cases hl;obtain ⟨rfl,kv⟩:=hm;exact A5 1 (DN (o.st u) (mt (mt (mt (mt (mt (mt mh)))))) O O Gs en O λkw ep=>BF ep)) ?_))))))
      refine DU.cons O ?_ ?_
      ·intro mq hh o
       intro kx hn
       have eq:=o.st u
       refine A5 1 ?_
       have ho:=eq.epAt (mt (mt (mt (mt (mt (mt mh)))))) eo Fm.id hn
       exact BP BX (λ_ x=>x) O ho BY (λe=>by cases e) O λky hp=>BF hp
      exact DU.cons O (λ_ _ o=>Ps o F7 O λ_ h' o' r'=>GB o' r') trivial
     intro kz cw hq cx k0 ht
     obtain⟨bv,rfl,er⟩:=ht.st u cw
     have cx:Rd _ _ AM hq a0:=cx
     obtain⟨rfl,⟨hu,hv⟩⟩:=AM.ex cx
     refine BU (vs:=[vI a0.B,vI a0.A]) O O O O BY O er .head O λhx bj df=>AS (kp [14,11,94,93,0,1,7,95] O) (Gf (A5 7 (AA O (AF Gb O (AT BX bj O (mt mh) O AZ O (AF MW O (AT BX bj O (mt mh) O AZ O (KD O O O (DB (cs:=[vI c.E,vI c.V,vI 2,.func (.func 111) #[] #[vP ag 0,vP bv 0]]) PB O O O (A6 ?_))))))))))
     have bk:=a2.trans ((cw.ext u.1).trans df)
     obtain⟨k1,es,hy,hz⟩:=bj.pubb (r:=CI) (x:=c) (.tail .head) ⟨_,_,_,O,cg,ch,bc,a5,(br.mono' bk),(bs.mono' bk),(bt.mono' bk),ci,cj,ck,cl,cm,cn,co,cp,cq,cr,a6⟩
     obtain⟨h0,et,dg,h3⟩:=es.pubb (r:=AM) (x:=a0) .head ⟨O,⟨hu,hv⟩⟩
     have eu:Rd h0 hx (B7.fn prog (λx:Int=>([vI x]:List Value)) (λx:Int=>AD x) (λy:AH=> .agg #[vI y.B,vI y.A]) (λy:AH=>AH.ok y)) (.func (.func 111) #[] #[(vP ag 0),(vP bv 0)]) (λx=>Dn N c a0 x):=LB 111 #[(vP ag 0),(vP bv 0)] aK λS' h' s' e' L hs x y h1 h2=>(LZ hs h1 ((hz.mono dg).mono'' s' e') (h3.mono'' s' e') h2).mono λ_ _ _ _ p=>p
     refine JF (cs:=[vI c.E,vI c.V,vI 2,(.func (.func 111) #[] #[(vP ag 0),(vP bv 0)])]) Kc O O O O O O O et λk2 k3 ev dh=>?_
     obtain⟨ew,E⟩:=TW E
     refine LH (r:=C9) (l:=ak) (xs:=([(⟨c.E,c.V,2,(λx=>Dn N c a0 x)⟩:A0)]:List A0)) O O Kc O mh ⟨_,_,O,⟨_,O,a5,a6,(iq (n:=2) O),(eu.mono dh)⟩,O⟩ O O ew O ev (λ_=>(.tail .head)) λh4 k4 ey h5=>?_
     have ez:=ey.drop .head
     refine A5 1 (A4 O (A6 (AS (kp [7,94,93,0,1,95] O) (B0 (WF.nil (λaa ww hf hw=>?_))))))
     exact⟨h4,(ak++([(⟨c.E,c.V,2,(λx=>Dn N c a0 x)⟩:A0)]:List A0)),_,_,hf.sub (kp [94,93,0,1,95,7] O),hw,ez,(bb.trans (a2.trans ((cw.ext u.1).trans (df.trans (hy.trans (dg.trans (dh.trans h5))))))),E⟩
    refine AE (AF Gb O (AT BX u O mh O AZ O (AA O (CR O (AA O (AO 4 170 (.bool ((decide (c.E=z))&&(decide (c.C=4)))) ?_ ?_))))))
    ·cases k5:(decide (c.E=z))
     ·exact AX O O
     exact AB O (AF E6 O (AB O (AT BX u O mh O AZ O (AB O (CR O (AI O (AN O)))))))
    refine AJ O (kp [161,11,94,93,0,1,7,95] O) (AW O E (λh6 E=>?_) (λh6 E=>?_))
    ·refine AC ?_
     obtain⟨k6,e0,E⟩:=bd E
     obtain⟨a1,e1,E⟩:=bd E
     refine Sm (m:=[(11,vP ag 0),(94,vI (↑p0_w.b.F.length:Int)),(93,t),(0,vP s 0),(1,vI z),(7,av),(95,vI am)]) 9 (λi v hh=>match i with|0=>v=vP s 0|1=>v=vP s 0|2=>v=vP s 15|3=>v=d|4=>v=vP ag 2|5=>v=vI c.I∧AD c.I|6=>EP d (c.I.toNat*(AM).sz+0) v|7=>Rd ba hh AM v a1|8=>Qj c8 51 [vI 0,vI 0] v hh|_=>False) [[],[(0,171)],[(1,172)],[(2,173)],[],[(4,175)],[(3,174),(5,176)],[(6,177)],[]] [(7,178),(8,15)] mo (by kernel_rfl) [11,94,93,0,1,7,95] O (by kernel_rfl) (by kernel_rfl) (by kernel_rfl) (kp [11,94,93,0,1,7,95] O) (λi v h1 h2 o1 o2 hr=>?_) ?_ ?_
     ·match i,hr with
       |0,hr|1,hr|2,hr|3,hr|4,hr|5,hr|6,hr=>exact hr
       |7,hr=>exact Rd.mono hr (o2.ext λb hb=>iY (u.1 b hb) o1.siz)
       |8,hr=>exact hr.mono o2
       |_+9,hr=>exact hr.elim
     ·refine DU.cons O (λ_ _ _=>A5 1 (AA O (BF O))) (DU.cons O (λ_ _ _ _ h7=>by cases h7;exact A5 1 (FV O O (BF O))) (DU.cons O (λ_ _ _ _ h8=>by cases h8;exact A5 1 (AF HJ O (BF O))) (DU.cons O (λ_ _ o _ h9=>by cases h9;exact A5 1 (AT BX (o.st u) O (mt (mt mh)) O IK O (BF O))) (DU.cons O (λ_ _ _=>A5 1 (AF H1 O (BF O))) (DU.cons O (λ_ _ o _ ia=>by cases ia;exact A5 1 (AT BX (o.st u) O mh O AZ O (BF ⟨O,bc⟩))) (DU.cons O (λ_ _ o=>by intro k7 ib k8 ic;cases ib;obtain ⟨rfl,k9⟩:=ic;exact A5 1 (DN (o.st u) (mt (mt (mt (mt (mt (mt mh)))))) O O Gs e0 O λla e2=>BF e2)) ?_))))))
      refine DU.cons O ?_ ?_
      ·intro mq hh o
       intro lb ie
       have eq:=o.st u
       refine A5 1 ?_
       have ig:=eq.epAt (mt (mt (mt (mt (mt (mt mh)))))) e1 Fm.id ie
       exact BP BX (λ_ x=>x) O ig BY (λe=>by cases e) O λlc ih=>BF ih
      exact DU.cons O (λ_ _ o=>Ps o F7 O λ_ h' o' r'=>GB o' r') trivial
     intro le cy ii cz lf ij
     obtain⟨bw,rfl,e3⟩:=ij.st u cy
     have cz:Rd _ _ AM ii a1:=cz
     obtain⟨rfl,⟨ik,il⟩⟩:=AM.ex cz
     refine BU (vs:=[vI a1.B,vI a1.A]) O O O O BY O e3 .head O λim bl di=>AS (kp [15,11,94,93,0,1,7,95] O) (Gf (A5 7 (AA O (AF H1 O (AT BX bl O (mt mh) O AZ O (AF MW O (AT BX bl O (mt mh) O AZ O (KD O O O (DB (cs:=[vI c.I,vI c.V,vI 2,.func (.func 114) #[] #[vP ag 0,vP bw 0]]) PB O O O (A6 ?_))))))))))
     have bm:=a2.trans ((cy.ext u.1).trans di)
     obtain⟨lg,e4,io,ip⟩:=bl.pubb (r:=CI) (x:=c) (.tail .head) ⟨_,_,_,O,cg,ch,bc,a5,(br.mono' bm),(bs.mono' bm),(bt.mono' bm),ci,cj,ck,cl,cm,cn,co,cp,cq,cr,a6⟩
     obtain⟨ir,e5,dj,it⟩:=e4.pubb (r:=AM) (x:=a1) .head ⟨O,⟨ik,il⟩⟩
     have e6:Rd ir im (B7.fn prog (λx:Int=>([vI x]:List Value)) (λx:Int=>AD x) (λy:AH=> .agg #[vI y.B,vI y.A]) (λy:AH=>AH.ok y)) (.func (.func 114) #[] #[(vP ag 0),(vP bw 0)]) (λx=>Dm N c a1 x):=LB 114 #[(vP ag 0),(vP bw 0)] aJ λS' h' s' e' L hs x y h1 h2=>(LY hs h1 ((ip.mono dj).mono'' s' e') (it.mono'' s' e') h2).mono λ_ _ _ _ p=>p
     refine JF (cs:=[vI c.I,vI c.V,vI 2,(.func (.func 114) #[] #[(vP ag 0),(vP bw 0)])]) Kc O O O O O O O e5 λlh li e7 dk=>?_
     obtain⟨e8,E⟩:=TW E
     refine LH (r:=C9) (l:=ak) (xs:=([(⟨c.I,c.V,2,(λx=>Dm N c a1 x)⟩:A0)]:List A0)) O O Kc O mh ⟨_,_,O,⟨_,O,bc,a6,(iq (n:=2) O),(e6.mono dk)⟩,O⟩ O O e8 O e7 (λ_=>(.tail .head)) λiu lj e9 iv=>?_
     have fb:=e9.drop .head
     refine A5 1 (A4 O (A6 (AS (kp [7,94,93,0,1,95] O) (B0 (WF.nil (λaa ww hf hw=>?_))))))
     exact⟨iu,(ak++([(⟨c.I,c.V,2,(λx=>Dm N c a1 x)⟩:A0)]:List A0)),_,_,hf.sub (kp [94,93,0,1,95,7] O),hw,fb,(bb.trans (a2.trans ((cy.ext u.1).trans (di.trans (io.trans (dj.trans (dk.trans iv))))))),E⟩
    refine AQ (B0 (WF.nil (λaa ww hf hw=>?_)))
    have fc:=u.sel [1,1,1,1,1,1] 1 O
    exact⟨av,ak,_,_,hf.sub (kp [94,93,0,1,95,7] O),hw,fc,(bb.trans a2),E⟩
   rintro aa ww ⟨bp,bq,ll,lm,hf,hw,fd,iw,E⟩
   refine A8 ?_ hf hw
   clear hf hw ww aa
   rw[C8] at E
   refine CL (.inl O) (BD O (AA O (AL (kp [95,94,93,0,1,7] O) (WF.nil (λaa ww hf hw=>?_)))))
   exact⟨bp,bq,(B8 (am+1)),_,_,hf.sub (kp [94,93,0,1,7,95] O),hw,fd,(cc.trans iw),(CJ _),E⟩
  refine WF.exit O (λaa ww hf hw=>?_)
  exact⟨av,ak,_,_,hf.sub (kp [0,1,7] O),hw,bg,cc,E⟩
 rintro aa ww ⟨bo,a4,dl,lo,hf,hw,bn,dm,E⟩
 refine A8 ?_ hf hw
 clear hf hw ww aa
 rw[CZ] at E
 refine AC (WF.sl (A5 8 (AA O (FV O O (AF HK O (AF En O (AT BX bn O (mt mh) O HD O (AA O ?_))))))))
 obtain⟨G,fe,E⟩:=bd E
 refine B6 O O (an.mono' (cb.trans dm)) Ga fe O λlp iy=>BP BX bn.1 O iy KO (λe=>by cases e) O λlq iz=>A6 (CX QG O bn λbx lr ff dn=>?_)
 obtain⟨dp,dq,dr,rfl,i0,i1,i2,i3,ds,dt,i4,i5,du,dv,i6,dw⟩:=Cb.ex (iz.mono dn)
 refine IR (vs:=[.string G.J,vI G.C,vI G.Aj,vI G.Ag,dp,dq,vI G.N,vI G.H,vI G.Ao,vI G.V,vI G.Ax,dr]) (cs':=[.string G.J,vI G.C,vI G.Aj,vI G.Ag,dp,dq,vI G.N,vI G.H,vI G.Ao,vI G.V,vI G.Ax,dr]) O O O (AG O (AG O (AG O (AG O (AG ds.one (AG dt.one (AG O (AG O (AG O (AG O (AG O (AG dw.one GJ)))))))))))) KO O ff .head O O λc0 a3 bz=>AS (kp [16,7] O) (AE (AF KR O (AT BX a3 O mh O AZ O (Cq O (AL (kp [199,16,7] O) (HW (λa w=>∃(c1:Value) (c2:List A0),IV B dl c0 (210,[]) a w [(7,c1)] (OS C9 181 c1 c2::Bx s 106 [.string p0_w.b.J,U,vI p0_w.b.W,X,t,ab,ac,ad,ae,af,vI p0_w.b.Z,vI p0_w.h.K,g,j,k,d]::OS AM 51 g p0_w.h.M::OS Ce 93 j p0_w.h.S::OS BK 97 k p0_w.h.F::OS AM 51 d p0_w.peaks::L) λ_ _=>Fy N c2=some r) ?_ ?_))))))
 ·refine AW O E (λi7 E=>?_) (λi7 E=>?_)
  ·refine Gf (A5 7 (AA O (AF O0 O (AT BX a3 O mh O AZ O (AF Q8 O (AT BX a3 O mh O AZ O (KD O O O (DB (cs:=[vI G.Ao,vI G.V,vI 2,.func (.func 116) #[] #[vP bx 0]]) PB O O O (A6 ?_)))))))))
   obtain⟨i8,fg,i9,ja⟩:=a3.pubb (r:=Cb) (x:=G) .head ⟨_,_,_,O,i0,i1,i2,i3,(ds.mono' bz),(dt.mono' bz),i4,i5,du,dv,i6,(dw.mono' bz)⟩
   have fh:Rd i8 c0 (B7.fn prog (λx:Int=>([vI x]:List Value)) (λx:Int=>AD x) (λy:AH=> .agg #[vI y.B,vI y.A]) (λy:AH=>AH.ok y)) (.func (.func 116) #[] #[(vP bx 0)]) (λx=>DT N G x):=LB 116 #[(vP bx 0)] aH λS' h' s' e' L hs x y h1 h2=>(LX hs h1 (ja.mono'' s' e') h2).mono λ_ _ _ _ p=>p
   refine JF (cs:=[vI G.Ao,vI G.V,vI 2,(.func (.func 116) #[] #[(vP bx 0)])]) Kc O O O O O O O fg λls lt fi dx=>?_
   obtain⟨fj,E⟩:=TW E
   refine LH (r:=C9) (l:=a4) (xs:=([(⟨G.Ao,G.V,2,(λx=>DT N G x)⟩:A0)]:List A0)) O O Kc O mh ⟨_,_,O,⟨_,O,du,dv,(iq (n:=2) O),(fh.mono dx)⟩,O⟩ O O fj O fi (λ_=>(.tail .head)) λjb lu fk jc=>?_
   have fl:=fk.drop .head
   refine A5 1 (A4 O (A6 (AS (kp [7] O) (WF.nil (λaa ww hf hw=>?_)))))
   exact⟨jb,(a4++([(⟨G.Ao,G.V,2,(λx=>DT N G x)⟩:A0)]:List A0)),_,_,hf.sub (kp [7] O),hw,fl,(i9.trans (dx.trans jc)),E⟩
  refine AQ (WF.nil (λaa ww hf hw=>?_))
  have fm:=a3.sel [1,1,1,1,1,1] 1 O
  exact⟨bo,a4,_,_,hf.sub (kp [7] O),hw,fm,(Cm.refl dl c0),E⟩
 rintro aa ww ⟨c1,c2,lv,lw,hf,hw,fo,jd,E⟩
 refine A8 ?_ hf hw
 clear hf hw ww aa
 rw[Fy] at E
 refine AE (AA O (AJ O (kp [6] O) (WF.ret (λaa ww hf hw=>?_))))
 cases E
 exact EU hf hw O O (cb.trans (dm.trans (dn.trans (bz.trans jd)))) fo
end Go.Proofs.YtibidnaedddfdaaGreat
