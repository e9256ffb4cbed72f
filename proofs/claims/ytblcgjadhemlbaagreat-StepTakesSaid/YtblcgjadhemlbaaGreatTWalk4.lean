import Derived.Test.YtblcgjadhemlbaaGreatTWalk3
namespace Go.Proofs.YtblcgjadhemlbaaGreat
open Go.RowKit
set_option linter.unusedVariables false
set_option linter.unusedSimpArgs false
set_option maxRecDepth 10000
set_option maxHeartbeats 2000000
variable {N:Nat}{S:Nat→Prop}{L:List HP}{h:Aw}
theorem Ma (hs:St S L h) {p:Value}{u:AW}(D:Rd S h B8 p u) {r:Bool}(E:Gv N u=some r):
 CL Tryz.prog 50 #[p] S h (λv S' h'=>v= .bool r∧St S' (L) h'):=by
 refine BF (l:=[p]) 51 Tryz.func50 O Tryz.ntmps50 O λB=>?_
 rw[Gv] at E
 refine WF.sl (B3 O D (λe=>by cases e) O hs λq1 S2 h3 ad e5 k6=>AI 1 (AY O (AG (AZ (kp [1] O) (AC (AH (Af O k6 Es HA O λq7 k8=>Al A6 ad.1 O k8 Jv O λv9 ae=>Ak O ae H6 O λbp=>AA O (AM (kp [8,7,6,1] O) (Aj (λa w=>IV B S2 h3 (51,[]) a w [] (L) λ_ _=>Ei N=some r) ?_ ?_)))))))))
 ·refine A3 (λn1=>λa w=>∃(z:Int),IV B S2 h3 (51,[]) a w [(7,vI (↑u.Links.length:Int)),(6,v9),(1,q1),(8,vI z)] (L) λ_ _=>AE z∧DN N u (Ei N) n1 z=some r) N ?_ ?_ ?_
  ·intro F G s t
   exact⟨0,_,_,s.sub (kp [7,6,1,8] O),t,ad,(B9.refl S2 h3),(iq (n:=0) O),E⟩
  ·rintro F G ⟨_,_,_,_,_,_,_,_,E⟩
   rw[DN] at E;cases E
  rintro n1 F G ⟨z,bq,br,s,t,A,y,bs,E⟩
  refine Ac ?_ s t
  clear s t G F
  rw[DN] at E
  refine AH (Ao O (AM (kp [9,7,6,1,8] O) (AC (AX O E (λbc E=>?_) (λbc E=>?_)))))
  ·refine AO (AC (A8 (WF.sl (AI 2 ?_))))
   obtain⟨b,af,E⟩:=bd E
   refine A9 O O (ae.mono' y) H6 af O λbt be=>B6 A6 A.1 O be HW (λe=>by cases e) O λbu bf=>AG (Cn OQ O A λbv bw ag C=>?_)
   obtain⟨H,I,J,rfl,ah,Q,K,U,V,W,X,ai,aj,ak,am,an,ao,ap,aq,ar,au,Y⟩:=Bv.ex (bf.mono C)
   refine HM (vs:=[.string b.Name,vI b.Kind,vI b.From,vI b.To,H,I,J,vI b.Positions,vI b.Speed,vI b.Leak,vI b.Crest,vI b.Num,vI b.Den,vI b.Prime,vI b.Break,vI b.BackNum,vI b.BackDen,vI b.Delay]) (cs':=[.string b.Name,vI b.Kind,vI b.From,vI b.To,H,I,J,vI b.Positions,vI b.Speed,vI b.Leak,vI b.Crest,vI b.Num,vI b.Den,vI b.Prime,vI b.Break,vI b.BackNum,vI b.BackDen,vI b.Delay]) O O O (AF O (AF O (AF O (AF O (AF V.one (AF W.one (AF X.one (AF O (AF O (AF O (AF O (AF O (AF O (AF O (AF O (AF O (AF O (AF O EG)))))))))))))))))) HW O ag .head O O λbx c m=>AZ (kp [4,7,6,1,8] O) (AC (Bt (.inl O) c (AD GF O (AT Bg c O mh O Ae O ?_))))
   obtain⟨bg,av,E⟩:=bd E
   refine A5 O O O Hn O (λh' o=>Bs (St.all h') Q (iq (n:=0) O) (iq (n:=5) O) av) (BZ O (AA O ?_))
   obtain⟨aw,d,E⟩:=bd E
   refine AV 8 24 (.bool aw) ?_ ?_
   ·cases ax:(!bg)
    ·have d:=GM ax d
     refine AB O (AD JJ O (AB O (AT Bg c O mh O Ae O (AB O (Af O (k6.mono (y.trans (C.trans m))) BO C0 O λbz bh=>AB O (Al Bg c.1 O bh Fq O λb0 bi=>AB O (Ak O bi Ez O λbj=>AB O ?_)))))))
     obtain⟨b1,ay,d⟩:=bd d
     refine A5 O O O P2 O (λh' o=>GP (St.all h') K (JY bj) ay) (AB O (BZ O (AJ O ?_)))
     cases d
     exact AU O
    have d:=GL ax d
    cases d
    exact Aa O O
   refine AA O ?_
   obtain⟨az,g,E⟩:=bd E
   refine AV 8 33 (.bool az) ?_ ?_
   ·cases a0:aw
    ·have g:=GM a0 g
     refine AB O (B6 Bg c.1 O (k6.mono (y.trans (C.trans m))) G0 (λe=>by cases e) O λb2 bk=>AB O (AD JJ O (AB O (AT Bg c O mh O Ae O (AB O (AD Ht O (AB O (AT Bg c O mh O Ae O (AB O ?_)))))))))
     obtain⟨b3,a1,g⟩:=bd g
     refine A5 O O O ZX O (λh' o=>LT (St.all h') (bk.mono (o.all c.1)) K U a1) (AB O (BZ O (AJ O ?_)))
     cases g
     exact AU O
    have g:=GL a0 g
    cases g
    exact Aa O O
   refine AA O ?_
   obtain⟨a2,i,E⟩:=bd E
   refine AV 5 39 (.bool a2) ?_ ?_
   ·cases a3:az
    ·have i:=GM a3 i
     refine AB O (AD Ns O (AB O (AT Bg c O mh O Ae O (AB O ?_))))
     obtain⟨b4,a4,i⟩:=bd i
     refine A5 O O O Hn O (λh' o=>Bs (St.all h') Y (iq (n:=0) O) (iq (n:=240) O) a4) (AB O (BZ O (AJ O ?_)))
     cases i
     exact AU O
    have i:=GL a3 i
    cases i
    exact Aa O O
   refine AA O ?_
   obtain⟨a5,j,E⟩:=bd E
   refine AV 4 44 (.bool a5) ?_ ?_
   ·cases a6:a2
    ·have j:=GM a6 j
     refine AB O (Dk (vs:=[.string b.Name,vI b.Kind,vI b.From,vI b.To,H,I,J,vI b.Positions,vI b.Speed,vI b.Leak,vI b.Crest,vI b.Num,vI b.Den,vI b.Prime,vI b.Break,vI b.BackNum,vI b.BackDen,vI b.Delay]) Bg c O mh O O HW O O (AB O ?_))
     obtain⟨b5,a7,j⟩:=bd j
     refine A5 O O O fE O (λh' o=>MC (St.all h') (Bv.mk (x:=b) ah Q K U ((V.mono' m).mono' (o.all c.1)) ((W.mono' m).mono' (o.all c.1)) ((X.mono' m).mono' (o.all c.1)) ai aj ak am an ao ap aq ar au Y) a7) (AB O (BZ O (AJ O ?_)))
     cases j
     exact AU O
    have j:=GL a6 j
    cases j
    exact Aa O O
   refine AA O ?_
   obtain⟨bl,k,E⟩:=bd E
   refine AV 4 49 (.bool bl) ?_ ?_
   ·cases a8:a5
    ·have k:=GM a8 k
     refine AB O (Dk (vs:=[.string b.Name,vI b.Kind,vI b.From,vI b.To,H,I,J,vI b.Positions,vI b.Speed,vI b.Leak,vI b.Crest,vI b.Num,vI b.Den,vI b.Prime,vI b.Break,vI b.BackNum,vI b.BackDen,vI b.Delay]) Bg c O mh O O HW O O (AB O ?_))
     obtain⟨b6,a9,k⟩:=bd k
     refine A5 O O O fD O (λh' o=>L8 (St.all h') (Bv.mk (x:=b) ah Q K U ((V.mono' m).mono' (o.all c.1)) ((W.mono' m).mono' (o.all c.1)) ((X.mono' m).mono' (o.all c.1)) ai aj ak am an ao ap aq ar au Y) a9) (AB O (BZ O (AJ O ?_)))
     cases k
     exact AU O
    have k:=GL a8 k
    cases k
    exact Aa O O
   refine BQ (kp [49,7,6,1,8] O) λb7 M ba=>AX O E (λbm E=>?_) (λbm E=>?_)
   ·refine AH (AL O (kp [2] O) (Ad (λF G s t=>?_)))
    have Z:=M.drop .head
    cases E
    exact Dr s t O O (e5.trans (y.trans (C.trans (m.trans ba)))) ⟨O,Z⟩
   refine AO (BP (BY (.inl O) (Ai O (AA O (AM (kp [8,7,6,1] O) (WF.nil (λF G s t=>?_)))))))
   have ab:=M.drop .head
   exact⟨(BM (z+1)),_,_,s.sub (kp [7,6,1,8] O),t,ab,(y.trans (C.trans (m.trans ba))),(BG _),E⟩
  refine BA O (λF G s t=>?_)
  exact⟨_,_,s.sub Ov,t,A,y,E⟩
 rintro F G ⟨bn,bo,s,t,ac,bb,E⟩
 refine Ac ?_ s t
 clear s t G F
 rw[Ei] at E
 refine AH (AL O (kp [2] O) (Ad (λF G s t=>?_)))
 cases E
 exact Dr s t O O (e5.trans bb) ⟨O,ac⟩
theorem Mb (hs:St S L h) {b:Value}{j:AW}(d:Rd S h B8 b j) {a:Int}(g:AE a) {c:Int}(m:AE c) {r:Bool}(E:Ih N j a c=some r):
 CL Tryz.prog 78 #[b,vI a,vI c] S h (λv S' h'=>v= .bool r∧St S' (L) h'):=by
 refine BF (l:=[b,vI a,vI c]) 27 Tryz.func78 O Tryz.ntmps78 O λB=>?_
 rw[Ih] at E
 refine WF.sl (B3 O d (λe=>by cases e) O hs λJ S2 K i w x=>AI 1 (AY O (AG (AZ (kp [3,1,2] O) (AC (AH (AA O (BK O (AM (kp [9,3,1,2] O) (AX O E (λy E=>?_) (λy E=>?_)))))))))))
 ·refine AH (AA O (BK O (AL O (kp [6] O) (Ad (λz A o p=>?_)))))
  cases E
  exact Dr o p O O w ⟨O,i⟩
 refine AO (AH (Af O x BO C0 O λM C=>Al A6 i.1 O C Fq O λD s=>AA O ?_))
 obtain⟨k,n,E⟩:=bd E
 refine A9 O O s Ez n O λF t=>Af O t GR KW O λG u=>Ag A6 i.1 O u Ae O λH=>AL O (kp [7,1] O) (AH (AA O (AA O (BK O (AA O (AV 5 26 (.bool ((decide (k.Office=a))||(decide (k.Office=(BM (a+1)))))) ?_ ?_))))))
 ·cases I:(decide (k.Office=a))
  ·exact AB O (AA O (AB O (AA O (AB O (Ai O (AB O (BK O (AJ O (AU O)))))))))
  exact Aa O O
 refine AL O (kp [6] O) (Ad (λz A o p=>?_))
 cases E
 exact Dr o p O O w ⟨O,i⟩
theorem Lp (hs:St S L h) {p:Value}{m:AW}(I:Rd S h B8 p m) {r:Bool}(E:GB N m=some r):
 CL Tryz.prog 51 #[p] S h (λv S' h'=>v= .bool r∧St S' (L) h'):=by
 refine BF (l:=[p]) 60 Tryz.func51 O Tryz.ntmps51 O λB=>?_
 rw[GB] at E
 refine WF.sl (B3 O I (λe=>by cases e) O hs λq1 S2 h3 am e5 k6=>AI 1 (AY O (AG (AZ (kp [1] O) (AC (AH (Af O k6 BO C0 O λq7 k8=>Al A6 am.1 O k8 Fq O λv9 an=>Ak O an Ez O λcu=>AA O (AM (kp [11,10,9,1] O) (Aj (λa w=>IV B S2 h3 (60,[]) a w [(1,q1)] (L) λ_ _=>Cw N m=some r) ?_ ?_)))))))))
 ·refine A3 (λn1=>λa w=>∃(x:Int),IV B S2 h3 (60,[]) a w [(10,vI (↑m.Places.length:Int)),(9,v9),(1,q1),(11,vI x)] (L) λ_ _=>AE x∧Cv N m (Cw N m) n1 x=some r) N ?_ ?_ ?_
  ·intro s t j k
   exact⟨0,_,_,j.sub (kp [10,9,1,11] O),k,am,(B9.refl S2 h3),(iq (n:=0) O),E⟩
  ·rintro s t ⟨_,_,_,_,_,_,_,_,E⟩
   rw[Cv] at E;cases E
  rintro n1 s t ⟨x,cv,cw,j,k,y,z,cx,E⟩
  refine Ac ?_ j k
  clear j k t s
  rw[Cv] at E
  refine AH (Ao O (AM (kp [12,10,9,1,11] O) (AC (AX O E (λbm E=>?_) (λbm E=>?_)))))
  ·refine AO (AC (A8 (WF.sl (AI 2 ?_))))
   obtain⟨d,ao,E⟩:=bd E
   refine A9 O O (an.mono' z) Ez ao O λcy bn=>B6 A6 y.1 O bn Jt (λe=>by cases e) O λcz bo=>AG (Cn OR O y λc0 c1 ap J=>?_)
   obtain⟨aq,ar,au,rfl,c2,c3,bp,c4,bq,br,c5,c6,bs,c7,c8,bt⟩:=B1.ex (bo.mono J)
   refine HM (vs:=[.string d.Name,vI d.Kind,vI d.Office,vI d.Cap,aq,ar,vI d.Num,vI d.Den,vI d.Down,vI d.Delay,vI d.Floor,au]) (cs':=[.string d.Name,vI d.Kind,vI d.Office,vI d.Cap,aq,ar,vI d.Num,vI d.Den,vI d.Down,vI d.Delay,vI d.Floor,au]) O O O (AF O (AF O (AF O (AF O (AF bq.one (AF br.one (AF O (AF O (AF O (AF O (AF O (AF bt.one EG)))))))))))) Jt O ap .head O O λc9 u ab=>AZ (kp [4,10,9,1,11] O) (AC (Bt (.inl O) u (B6 Bg u.1 O (k6.mono (z.trans (J.trans ab))) G0 (λe=>by cases e) O λda bu=>AD KW O (AT Bg u O mh O Ae O (AD PN O (AT Bg u O mh O Ae O ?_))))))
   obtain⟨db,av,E⟩:=bd E
   refine A5 O O O ZW O (λh' o=>Mb (St.all h') (bu.mono (o.all u.1)) bp bs av) (BZ O (BQ (kp [21,10,9,1,11] O) λdc M aw=>AX O E (λbv E=>?_) (λbv E=>?_)))
   ·refine AH (AL O (kp [2] O) (Ad (λs t j k=>?_)))
    have ax:=M.drop .head
    cases E
    exact Dr j k O O (e5.trans (z.trans (J.trans (ab.trans aw)))) ⟨O,ax⟩
   refine AO (BP (BY (.inl O) (Ai O (AA O (AM (kp [11,10,9,1] O) (WF.nil (λs t j k=>?_)))))))
   have ay:=M.drop .head
   exact⟨(BM (x+1)),_,_,j.sub (kp [10,9,1,11] O),k,ay,(z.trans (J.trans (ab.trans aw))),(BG _),E⟩
  refine BA O (λs t j k=>?_)
  exact⟨_,_,j.sub (kp [1] O),k,y,z,E⟩
 rintro s t ⟨ac,ad,j,k,Q,ae,E⟩
 refine Ac ?_ j k
 clear j k t s
 rw[Cw] at E
 refine AC (AH ?_)
 have az:=k6.mono ae
 refine Af O az Es HA O λdd bw=>Al A6 Q.1 O bw Jv O λbx a0=>Ak O a0 H6 O λde=>AA O (AM (kp [26,25,24,1] O) (Aj (λa w=>IV B ac ad (60,[]) a w [] (L) λ_ _=>D7 N=some r) ?_ ?_))
 ·refine A3 (λn3=>λa w=>∃(A:Int),IV B ac ad (60,[]) a w [(25,vI (↑m.Links.length:Int)),(24,bx),(1,q1),(26,vI A)] (L) λ_ _=>AE A∧Cu N m (D7 N) n3 A=some r) N ?_ ?_ ?_
  ·intro s t j k
   exact⟨0,_,_,j.sub (kp [25,24,1,26] O),k,Q,(B9.refl ac ad),(iq (n:=0) O),E⟩
  ·rintro s t ⟨_,_,_,_,_,_,_,_,E⟩
   rw[Cu] at E;cases E
  rintro n3 s t ⟨A,df,dg,j,k,C,D,dh,E⟩
  refine Ac ?_ j k
  clear j k t s
  rw[Cu] at E
  refine AH (Ao O (AM (kp [27,25,24,1,26] O) (AC (AX O E (λbz E=>?_) (λbz E=>?_)))))
  ·refine AO (AC (A8 (WF.sl (AI 2 ?_))))
   obtain⟨b,a1,E⟩:=bd E
   refine A9 O O (a0.mono' D) H6 a1 O λdi b0=>B6 A6 C.1 O b0 HW (λe=>by cases e) O λdj b1=>AG (Cn OQ O C λdk dl a2 K=>?_)
   obtain⟨U,V,W,rfl,dm,dn,dp,b2,a3,a4,a5,b3,b4,b5,b6,b7,b8,b9,ca,cb,cc,cd⟩:=Bv.ex (b1.mono K)
   refine HM (vs:=[.string b.Name,vI b.Kind,vI b.From,vI b.To,U,V,W,vI b.Positions,vI b.Speed,vI b.Leak,vI b.Crest,vI b.Num,vI b.Den,vI b.Prime,vI b.Break,vI b.BackNum,vI b.BackDen,vI b.Delay]) (cs':=[.string b.Name,vI b.Kind,vI b.From,vI b.To,U,V,W,vI b.Positions,vI b.Speed,vI b.Leak,vI b.Crest,vI b.Num,vI b.Den,vI b.Prime,vI b.Break,vI b.BackNum,vI b.BackDen,vI b.Delay]) O O O (AF O (AF O (AF O (AF O (AF a3.one (AF a4.one (AF a5.one (AF O (AF O (AF O (AF O (AF O (AF O (AF O (AF O (AF O (AF O (AF O EG)))))))))))))))))) HW O a2 .head O O λce c F=>AZ (kp [6,25,24,1,26] O) (AH ?_)
   have G:=az.mono (D.trans (K.trans F))
   refine Af O G BO C0 O λcf a6=>Al A6 c.1 O a6 Fq O λcg a7=>AD JJ O (AT A6 c O mh O Ae O ?_)
   obtain⟨ch,af,E⟩:=bd E
   refine A9 O O a7 Ez af O λci a8=>Af O a8 GR KW O λcj a9=>Ag A6 c.1 O a9 Ae O λba=>AL O (kp [7,6,25,24,1,26] O) (AC (Bt (.inl O) c (B6 Bg c.1 O G G0 (λe=>by cases e) O λck bb=>AA O (AD Ht O (AT Bg c O mh O Ae O ?_)))))
   obtain⟨bc,ag,E⟩:=bd E
   refine A5 O O O ZW O (λh' o=>Mb (St.all h') (bb.mono (o.all c.1)) ba b2 ag) (BZ O (AA O ?_))
   obtain⟨be,g,E⟩:=bd E
   refine AV 15 58 (.bool be) ?_ ?_
   ·cases X:(!bc)
    ·have g:=GM X g
     refine AB O (AD GF O (AB O (AT Bg c O mh O Ae O (AB O (BK O (AB O (AA O ?_)))))))
     obtain⟨bf,i,g⟩:=bd g
     refine AV 10 57 (.bool bf) ?_ ?_
     ·cases Y:(decide (b.Kind=4))
      ·have i:=GM Y i
       cases i
       exact Aa O O
      have i:=GL Y i
      refine AB O (Af O G BO C0 O λcl bg=>AB O (Al Bg c.1 O bg Fq O λcm bh=>AB O (AD Ht O (AB O (AT Bg c O mh O Ae O (AB O ?_))))))
      obtain⟨cn,ah,i⟩:=bd i
      refine A9 O O bh Ez ah O λco bi=>AB O (Af O bi GR KW O λcp bj=>AB O (Ag Bg c.1 O bj Ae O λcq=>AB O (AA O (AB O (Bl O (AB O (AJ O ?_)))))))
      cases i
      exact AU O
     refine AJ O ?_
     cases g
     exact AU O
    have g:=GL X g
    cases g
    exact Aa O O
   refine BQ (kp [58,25,24,1,26] O) λcr H Z=>AX O E (λbk E=>?_) (λbk E=>?_)
   ·refine AH (AL O (kp [2] O) (Ad (λs t j k=>?_)))
    have ai:=H.drop .head
    cases E
    exact Dr j k O O (e5.trans (ae.trans (D.trans (K.trans (F.trans Z))))) ⟨O,ai⟩
   refine AO (BP (BY (.inl O) (Ai O (AA O (AM (kp [26,25,24,1] O) (WF.nil (λs t j k=>?_)))))))
   have aj:=H.drop .head
   exact⟨(BM (A+1)),_,_,j.sub (kp [25,24,1,26] O),k,aj,(D.trans (K.trans (F.trans Z))),(BG _),E⟩
  refine BA O (λs t j k=>?_)
  exact⟨_,_,j.sub Ov,k,C,D,E⟩
 rintro s t ⟨cs,ct,j,k,ak,bl,E⟩
 refine Ac ?_ j k
 clear j k t s
 rw[D7] at E
 refine AH (AL O (kp [2] O) (Ad (λs t j k=>?_)))
 cases E
 exact Dr j k O O (e5.trans (ae.trans bl)) ⟨O,ak⟩
theorem G6 (hs:St S L h) {b:Int}(q:AE b) {c:Int}(s:AE c) {r:Int}(E:Ep N b c=some r):
 CL Tryz.prog 79 #[vI b,vI c] S h (λv S' h'=>v=vI r∧AE r∧St S' (L) h'):=by
 refine BF (l:=[vI b,vI c]) 34 Tryz.func79 O Tryz.ntmps79 O λB=>?_
 rw[Ep] at E
 refine AH (AL O (kp [0,1] O) (AC (AH (AA O (BK O (AM (kp [10,0,1] O) (AX O E (λJ E=>?_) (λJ E=>?_))))))))
 ·refine AH (AL O (kp [4] O) (Ad (λt u g i=>?_)))
  cases E
  exact Dr g i O O (B9.refl S h) ⟨O,(iq (n:=0) O),hs⟩
 refine AO (AC (AH (AA O (AA O (Bk O (AM (kp [13,0,1] O) (AX O E (λK E=>?_) (λK E=>?_))))))))
 ·refine AH (AL O (kp [4] O) (Ad (λt u g i=>?_)))
  cases E
  exact Dr g i O O (B9.refl S h) ⟨O,(iq (n:=1099511627777) O),hs⟩
 refine AO (AC (Bt (.inl O) hs (AA O (HL O OC K8 O ?_))))
 obtain⟨z,A,E⟩:=bd E
 refine IC (v:= .tuple #[.int .u64 z.1,.int .u64 z.2]) (Ψ:=IntKind.has .u64 z.1∧IntKind.has .u64 z.2) O O O ZR O (λh' o=>(KK (St.all h') (D1 _ _) (show IntKind.has .u64 1099511627776 by first|assumption|exact⟨by decide,by decide⟩) A).mono λ_ _ _ _ p=>⟨p.1,⟨p.2.1,p.2.2.1⟩⟩) λM=>?_
 obtain⟨Q,U⟩:=M
 refine AA O (Bo O (Bo O (AY O (AY O (BQ (kp [6,5,1] O) λh7 C V=>AC (Bt (.inl O) C (AA O (AA O (AA O (HL O OC K8 O ?_))))))))))
 obtain⟨d,x,E⟩:=bd E
 refine IC (v:= .tuple #[.int .u64 d.1,.int .u64 d.2]) (Ψ:=IntKind.has .u64 d.1∧IntKind.has .u64 d.2) O O O ZQ O (λh' o=>(KL (St.all h') Q U (D1 _ _) x).mono λ_ _ _ _ p=>⟨p.1,⟨p.2.1,p.2.2.1⟩⟩) λD=>?_
 obtain⟨F,W⟩:=D
 refine AA O (Bo O (Bo O (AY O (AY O (BQ (kp [8,7] O) λm k G=>AC (AH (AA O (Bl O (AM (kp [29,7] O) (Ga (λa w=>∃(j:Int),IV B S m (34,[]) a w [(7,.int .u64 j)] (L) λ_ _=>IntKind.has .u64 j∧Ig N j=some r) ?_ ?_))))))))))
 ·refine AX O E (λH E=>?_) (λH E=>?_)
  ·refine BY (.inl O) (AA O (I9 O O O (AL O (kp [7] O) (WF.nil (λt u g i=>?_)))))
   exact⟨(IntKind.wrap .u64 (d.1+1)),_,_,g.sub (kp [7] O),i,k,(B9.refl S m),(D1 _ _),E⟩
  refine AO (WF.nil (λt u g i=>?_))
  exact⟨d.1,_,_,g.sub (kp [7] O),i,k,(B9.refl S m),F,E⟩
 rintro t u ⟨j,X,Y,g,i,y,I,Z,E⟩
 refine Ac ?_ g i
 clear g i u t
 rw[Ig] at E
 refine AH (AA O (HL O K8 OC O (AL O (kp [4] O) (Ad (λt u g i=>?_)))))
 cases E
 exact Dr g i O O (V.trans (G.trans I)) ⟨O,(BG _),y⟩
theorem NP (hs:St S L h) {c:Value}{b:(List (List BT))}(d:Sl S h (AN.sl Bu) c b) {r:Int}(E:Hm N b=some r):
 CL Tryz.prog 80 #[c] S h (λv S' h'=>v=vI r∧AE r∧St S' (L) h'):=by
 refine BF (l:=[c]) 48 Tryz.func80 O Tryz.ntmps80 O λB=>?_
 rw[Hm] at E
 refine AH (AL O (kp [0] O) (AH (AL O (kp [3,0] O) (AC (AH (AA O (Ak O d V8 O λb1=>AA O (AM (kp [9,8,7,3] O) (Aj (λa w=>∃(W:Int),IV B S h (48,[]) a w [(3,vI W)] (L) λ_ _=>AE W∧DT N W=some r) ?_ ?_)))))))))
 ·refine A3 (λX=>λa w=>∃(D:Int) (k:Int),IV B S h (48,[]) a w [(8,vI (↑b.length:Int)),(7,c),(3,vI D),(9,vI k)] (L) λ_ _=>AE D∧AE k∧CY N b (DT N) X D k=some r) N ?_ ?_ ?_
  ·intro m p g i
   exact⟨0,0,_,_,g.sub (kp [8,7,3,9] O),i,hs,(B9.refl S h),(iq (n:=0) O),(iq (n:=0) O),E⟩
  ·rintro m p ⟨_,_,_,_,_,_,_,_,_,_,E⟩
   rw[CY] at E;cases E
  rintro X m p ⟨D,k,z,A,g,i,t,C,r9,av,E⟩
  refine Ac ?_ g i
  clear g i p m
  rw[CY] at E
  refine AH (Ao O (AM (kp [10,8,7,3,9] O) (AC (AX O E (λY E=>?_) (λY E=>?_)))))
  ·refine AO (AC (Aj (λa w=>∃(u:Int),IV B z A (48,[]) a w [(8,vI (↑b.length:Int)),(7,c),(9,vI k),(3,vI u)] (L) λ_ _=>AE u∧Ea N k (CY N b (DT N) X) u=some r) ?_ ?_))
   ·refine AH ?_
    obtain⟨Z,F,E⟩:=bd E
    refine A9 O O (d.mono' C) V8 F O λaw ab=>Al A6 t.1 O ab IQ O λac x=>AL O (kp [5,8,7,3,9] O) (AH (AL O (kp [6,5,8,7,3,9] O) (A8 (A3 (λn3=>λa w=>∃(s:Int) (y:Int),IV B z A (48,[]) a w [(5,ac),(8,vI (↑b.length:Int)),(7,c),(9,vI k),(3,vI s),(6,vI y)] (L) λ_ _=>AE s∧AE y∧Dt N Z (Ea N k (CY N b (DT N) X)) n3 s y=some r) N ?_ ?_ ?_))))
    ·intro m p g i
     exact⟨D,1,_,_,g.sub (kp [5,8,7,9,3,6] O),i,t,(B9.refl z A),r9,(iq (n:=1) O),E⟩
    ·rintro m p ⟨_,_,_,_,_,_,_,_,_,_,E⟩
     rw[Dt] at E;cases E
    rintro n3 m p ⟨s,y,ax,ay,g,i,j,q,G,az,E⟩
    refine Ac ?_ g i
    clear g i p m
    rw[Dt] at E
    refine AC (AH (AA O (AA O (Ak O (x.mono' q) H5 O λa0=>Ao O (AM (kp [16,5,8,7,9,3,6] O) (AX O E (λad E=>?_) (λad E=>?_)))))))
    ·refine AO (AC (A8 (Bt (.inr ⟨mo,by kernel_rfl⟩) j (AA O (AA O (AA O ?_))))))
     obtain⟨a1,H,E⟩:=bd E
     refine A9 O O (x.mono' q) H5 H O λa2 ae=>Af O ae Kr IK O λa3 af=>Ag Bg j.1 O af Ae O λa4=>AA O (AA O (Cz O ?_))
     obtain⟨a5,I,E⟩:=bd E
     refine A9 O O (x.mono' q) H5 I O λa6 ag=>Af O ag Kr IK O λa7 ah=>Ag Bg j.1 O ah Ae O λa8=>Cz O (AA O (AA O ?_))
     obtain⟨a9,J,E⟩:=bd E
     refine A9 O O (x.mono' q) H5 J O λba ai=>Af O ai Ks I3 O λbb aj=>Ag Bg j.1 O aj Ae O λbc=>AA O (AA O (Cz O ?_))
     obtain⟨be,K,E⟩:=bd E
     refine A9 O O (x.mono' q) H5 K O λbf ak=>Af O ak Ks I3 O λbg al=>Ag Bg j.1 O al Ae O λbh=>Cz O ?_
     obtain⟨am,M,E⟩:=bd E
     refine CX O O O Qs O (λh' o=>G6 (St.all h') (BG _) (BG _) M) λan=>?_
     have ao:=an
     refine P7 O O O (AY O (BQ (kp [3,5,8,7,9,6] O) λbi Q ap=>BP (BY (.inl O) (AA O (Ai O (AL O (kp [6,3,5,8,7,9] O) (WF.nil (λm p g i=>?_))))))))
     exact⟨(max s am),(BM (y+1)),_,_,g.sub (kp [5,8,7,9,3,6] O),i,Q,(q.trans ap),(OJ G ao),(BG _),E⟩
    refine J8 O (WF.nil (λm p g i=>?_))
    exact⟨s,_,_,g.sub (kp [8,7,9,3] O),i,j,q,G,E⟩
   rintro m p ⟨u,bj,bk,g,i,U,aq,ar,E⟩
   refine Ac ?_ g i
   clear g i p m
   rw[Ea] at E
   refine BY (.inl O) (Ai O (AA O (AM (kp [9,8,7,3] O) (WF.nil (λm p g i=>?_)))))
   exact⟨u,(BM (k+1)),_,_,g.sub (kp [8,7,3,9] O),i,U,(C.trans aq),ar,(BG _),E⟩
  refine BA O (λm p g i=>?_)
  exact⟨D,_,_,g.sub (kp [3] O),i,t,C,r9,E⟩
 rintro m p ⟨W,bl,bm,g,i,V,au,r3,E⟩
 refine Ac ?_ g i
 clear g i p m
 rw[DT] at E
 refine AH (AA O (AL O (kp [2] O) (Ad (λm p g i=>?_))))
 cases E
 exact Dr g i O O au ⟨O,r3,V⟩
theorem L9 (hs:St S L h) {Y:Value}{s:AW}(a4:Rd S h B8 Y s) {r:Bool}(E:GV N s=some r):
 CL Tryz.prog 52 #[Y] S h (λv S' h'=>v= .bool r∧St S' (L) h'):=by
 refine BF (l:=[Y]) 128 Tryz.func52 O Tryz.ntmps52 O λB=>?_
 rw[GV] at E
 refine WF.sl (B3 O a4 (λe=>by cases e) O hs λq1 S2 h3 du e5 k6=>AI 1 (AY O (AG (AZ (kp [1] O) (WF.sl (AI 3 (Af O k6 BO C0 O λq7 k8=>Al A6 du.1 O k8 Fq O λv9 f9=>Ak O f9 Ez O λjt=>AG ?_)))))))
 obtain⟨dv,E⟩:=MU E
 refine JD (r:=AN.int) (zx:=0) FJ O ⟨O,by unfold AE;omega⟩ O O dv O O du λt bt a9 bu=>AI 1 (AY O (AG (AZ (kp [3,1] O) (AC (AH ?_)))))
 have dw:=k6.mono bu
 refine Af O dw BO C0 O λju ga=>Al A6 a9.1 O ga Fq O λgb dx=>Ak O dx Ez O λjv=>AA O (AM (kp [17,16,15,3,1] O) (Aj (λa w=>∃(a5:List Int),IV B S2 bt (128,[]) a w [(3,t),(1,q1)] (OS AN.int 3 t a5::L) λ_ _=>DC N s a5=some r) ?_ ?_))
 ·refine A3 (λn1=>λa w=>∃(ab:Int) (ak:List Int),IV B S2 bt (128,[]) a w [(16,vI (↑s.Places.length:Int)),(15,gb),(3,t),(1,q1),(17,vI ab)] (OS AN.int 3 t ak::L) λ_ _=>AE ab∧DA N s (DC N s) n1 ab ak=some r) N ?_ ?_ ?_
  ·intro y z g j
   exact⟨0,(List.replicate ((↑s.Places.length:Int):Int).toNat (0:Int)),_,_,g.sub (kp [16,15,3,1,17] O),j,a9,(B9.refl S2 bt),(iq (n:=0) O),E⟩
  ·rintro y z ⟨_,_,_,_,_,_,_,_,_,E⟩
   rw[DA] at E;cases E
  rintro n1 y z ⟨ab,ak,jw,jx,g,j,an,bv,jy,E⟩
  refine Ac ?_ g j
  clear g j z y
  rw[DA] at E
  refine AH (Ao O (AM (kp [18,16,15,3,1,17] O) (AC (AX O E (λgc E=>?_) (λgc E=>?_)))))
  ·refine AO (AC (A8 (WF.sl (AI 3 (AA O ?_)))))
   obtain⟨C,dy,E⟩:=bd E
   refine A9 O O (dx.mono' bv) Ez dy O λjz gd=>B6 A6 an.1 O gd Jt (λe=>by cases e) O λj0 ge=>AG (Cn OR O an λj1 j2 dz d0=>AI 1 (AY O (AG ?_)))
   obtain⟨d1,d2,d3,rfl,j3,j4,j5,j6,gf,gg,gh,gi,j7,j8,j9,gj⟩:=B1.ex (ge.mono d0)
   refine HM (vs:=[.string C.Name,vI C.Kind,vI C.Office,vI C.Cap,d1,d2,vI C.Num,vI C.Den,vI C.Down,vI C.Delay,vI C.Floor,d3]) (cs':=[.string C.Name,vI C.Kind,vI C.Office,vI C.Cap,d1,d2,vI C.Num,vI C.Den,vI C.Down,vI C.Delay,vI C.Floor,d3]) O O O (AF O (AF O (AF O (AF O (AF gf.one (AF gg.one (AF O (AF O (AF O (AF O (AF O (AF gj.one EG)))))))))))) Jt O dz .head O O λka ao gk=>AZ (kp [4,5,16,15,3,1,17] O) (EX (AI 6 (AA O (AA O (AD Rn O (AT A6 ao O mh O Ae O (AD K3 O (AT A6 ao O mh O Ae O (AG ?_)))))))))
   obtain⟨d4,d5,E⟩:=bd E
   refine Bf O O O Qs O ao (G6 (St.all _) gh gi d5) λkb kc kd ba gl ke p=>?_
   obtain⟨rfl,gm,gu⟩:=p
   refine AI 1 ?_
   obtain⟨kf,d6,E⟩:=bd E
   refine A0 ba (mt mh) O O BR d6 O λkg d7=>AG ?_
   obtain⟨gn,d8,E⟩:=bd E
   refine Er (r:=AN.int) (l:=ak) (i:=ab) (x:=gn) O O (⟨_,O,O,gm⟩:Rd _ _ AN.int _ d4) d7 d8 Lr.id Ae (λ_=>rfl) ba (.tail .head) λkh d9 gp=>AZ (kp [16,15,3,1,17] O) (BP (BY (.inl O) (Ai O (AA O (AM (kp [17,16,15,3,1] O) (WF.nil (λy z g j=>?_)))))))
   have ea:=d9.sel [1] 1 O
   exact⟨(BM (ab+1)),(upd ak ab d4),_,_,g.sub (kp [16,15,3,1,17] O),j,ea,(bv.trans (d0.trans (gk.trans (gl.trans gp)))),(BG _),E⟩
  refine BA O (λy z g j=>?_)
  exact⟨ak,_,_,g.sub (kp [3,1] O),j,an,bv,E⟩
 rintro y z ⟨a5,bw,bx,g,j,bb,bz,E⟩
 refine Ac ?_ g j
 clear g j z y
 rw[DC] at E
 refine AC (AH (Af O (dw.mono bz) Es HA O λki gq=>Al A6 bb.1 O gq Jv O λap eb=>Ak O eb H6 O λkj=>AA O (AM (kp [34,33,32,3] O) (Aj (λa w=>∃(am:List Int),IV B bw bx (128,[]) a w [(3,t)] (OS AN.int 3 t am::L) λ_ _=>CG N am=some r) ?_ ?_))))
 ·refine A3 (λn3=>λa w=>∃(M:Int) (D:List Int),IV B bw bx (128,[]) a w [(33,vI (↑s.Links.length:Int)),(32,ap),(3,t),(34,vI M)] (OS AN.int 3 t D::L) λ_ _=>AE M∧BS N s (CG N) n3 M D=some r) N ?_ ?_ ?_
  ·intro y z g j
   exact⟨0,a5,_,_,g.sub (kp [33,32,3,34] O),j,bb,(B9.refl bw bx),(iq (n:=0) O),E⟩
  ·rintro y z ⟨_,_,_,_,_,_,_,_,_,E⟩
   rw[BS] at E;cases E
  rintro n3 y z ⟨M,D,u,ec,g,j,ac,aq,kk,E⟩
  refine Ac ?_ g j
  clear g j z y
  rw[BS] at E
  refine AH (Ao O (AM (kp [35,33,32,3,34] O) (AC (AX O E (λed E=>?_) (λed E=>?_)))))
  ·refine AO (AC (Aj (λa w=>∃(ae:List Int),IV B u ec (128,[]) a w [(33,vI (↑s.Links.length:Int)),(32,ap),(3,t),(34,vI M)] (OS AN.int 3 t ae::L) λ_ _=>B7 N M (BS N s (CG N) n3) ae=some r) ?_ ?_))
   ·refine WF.sl (AI 2 ?_)
    obtain⟨c,b0,E⟩:=bd E
    refine A9 O O (eb.mono' aq) H6 b0 O λgv ee=>B6 A6 ac.1 O ee HW (λe=>by cases e) O λgw ef=>AG (Cn OQ O ac λF gx b1 U=>?_)
    obtain⟨af,ag,ah,rfl,gy,gz,eg,g0,bc,be,bf,g1,g2,g3,g4,bg,bh,g5,g6,bi,bj,g7⟩:=Bv.ex (ef.mono U)
    refine HM (vs:=[.string c.Name,vI c.Kind,vI c.From,vI c.To,af,ag,ah,vI c.Positions,vI c.Speed,vI c.Leak,vI c.Crest,vI c.Num,vI c.Den,vI c.Prime,vI c.Break,vI c.BackNum,vI c.BackDen,vI c.Delay]) (cs':=[.string c.Name,vI c.Kind,vI c.From,vI c.To,af,ag,ah,vI c.Positions,vI c.Speed,vI c.Leak,vI c.Crest,vI c.Num,vI c.Den,vI c.Prime,vI c.Break,vI c.BackNum,vI c.BackDen,vI c.Delay]) O O O (AF O (AF O (AF O (AF O (AF bc.one (AF be.one (AF bf.one (AF O (AF O (AF O (AF O (AF O (AF O (AF O (AF O (AF O (AF O (AF O EG)))))))))))))))))) HW O b1 .head O O λH d I=>AZ (kp [7,33,32,3,34] O) (AH (AD GF O (AT A6 d O mh O Ae O (AM (kp [39,7,33,32,3,34] O) (A8 (AH (BK O (AL O (kp [40,39,7,33,32,3,34] O) (AX O E (λeh E=>?_) (λeh E=>?_))))))))))
    ·refine AC ?_
     obtain⟨g8,b2,E⟩:=bd E
     obtain⟨J,b3,E⟩:=bd E
     obtain⟨K,b4,E⟩:=bd E
     obtain⟨g9,b5,E⟩:=bd E
     refine NH (m:=[(7,vP F 0),(33,vI (↑s.Links.length:Int)),(32,ap),(3,t),(34,vI M)]) 17 (λi v hh=>match i with|0=>v=t|1=>v=vP F 2|2=>v=vI c.From∧AE c.From|3=>EP t (c.From.toNat*(AN.int).sz+0) v|4=>v=vI J∧AE J|5=>v=vP F 4|6=>Sl u hh Bu v c.Rate|7=>v=vP F 5|8=>v=vP F 5|9=>Sl u hh Bu v c.Band.Lo|10=>v=vP F 5|11=>v=vP F 6|12=>Sl u hh Bu v c.Band.Hi|13=>Sl (SN u H hh) hh (AN.sl Bu) v ([c.Rate,c.Band.Lo,c.Band.Hi]:List (List BT))∧∃ad,v= .slice (some ad) 3 3|14=>v=vI K∧AE K|15=>v=vI (BM (J+K))∧AE (BM (J+K))|16=>EP t (c.From.toNat*(AN.int).sz+0) v|_=>False) [[],[],[(1,43)],[(0,42),(2,44)],[(3,45)],[],[(5,47)],[],[(7,49)],[(8,50)],[],[(10,52)],[(11,53)],[(6,48),(9,51),(12,54)],[(13,55)],[(4,46),(14,56)],[(0,42),(2,44)]] [(15,57),(16,58)] mo (by kernel_rfl) [7,33,32,3,34] O (by kernel_rfl) (by kernel_rfl) (by kernel_rfl) (kp [7,33,32,3,34] O) (λi v h1 h2 o1 o2 hr=>?_) ?_ ?_
     ·match i,hr with
       |0,hr|1,hr|2,hr|3,hr|4,hr|5,hr|7,hr|8,hr|10,hr|11,hr|14,hr|15,hr|16,hr=>exact hr
       |6,hr|9,hr|12,hr=>exact Sl.mono' hr (o2.ext λb hb=>Nat.lt_of_lt_of_le (d.1 b hb) o1.siz)
       |13,hr=>exact⟨Sl.mono' hr.1 (SN.mono d.1 o1 o2),hr.2⟩
       |_+17,hr=>exact hr.elim
     ·refine A7.cons O (λ_ _ _=>AI 1 (AA O (AQ O))) (A7.cons O (λ_ _ _=>AI 1 (AD JJ O (AQ O))) (A7.cons O (λ_ _ o _ ei=>by cases ei;exact AI 1 (AT A6 (o.st d) O mh O Ae O (AQ ⟨O,eg⟩))) (A7.cons O (λ_ _ o=>by intro ha ej hc ek;cases ej;obtain ⟨rfl,hd⟩:=ek;exact AI 1 (A0 (o.st d) (mt mh) O O BR b2 O λhe b6=>AQ b6)) ?_)))
      refine A7.cons O ?_ ?_
      ·intro mq hh o
       intro hg el
       have hsN:=o.st d
       refine AI 1 ?_
       have em:=hsN.epAt (mt mh) b3 FL.id el
       exact Ag A6 (λ_ x=>x) O em Ae O λen=>AQ ⟨O,en⟩
      refine A7.cons O (λ_ _ _=>AI 1 (AD Mu O (AQ O))) (A7.cons O (λ_ _ o _ eo=>by cases eo;exact AI 1 (AT A6 (o.st d) O mh O IQ O (AQ (bc.mono' (I.trans (o.ext d.1)))))) (A7.cons O (λ_ _ _=>AI 1 (AD K2 O (AQ O))) (A7.cons O (λ_ _ _ _ ep=>by cases ep;exact AI 1 (AD PM O (AQ O))) (A7.cons O (λ_ _ o _ eq=>by cases eq;exact AI 1 (AT A6 (o.st d) O mh O IQ O (AQ (be.mono' (I.trans (o.ext d.1)))))) (A7.cons O (λ_ _ _=>AI 1 (AD K2 O (AQ O))) (A7.cons O (λ_ _ _ _ er=>by cases er;exact AI 1 (AD PL O (AQ O))) (A7.cons O (λ_ _ o _ es=>by cases es;exact AI 1 (AT A6 (o.st d) O mh O IQ O (AQ (bf.mono' (I.trans (o.ext d.1)))))) ?_)))))))
      refine A7.cons O ?_ ?_
      ·intro mq hh o
       intro et V eu W ev X
       have hsN:=SN.st d o
       have V:=Sl.mono' (S':=(SN u H hh)) V ⟨λb hb=> .inl hb,λ_ _=>rfl,Nat.le_refl _⟩
       have V:Sl _ _ Bu et c.Rate:=V
       have W:=Sl.mono' (S':=(SN u H hh)) W ⟨λb hb=> .inl hb,λ_ _=>rfl,Nat.le_refl _⟩
       have W:Sl _ _ Bu eu c.Band.Lo:=W
       have X:=Sl.mono' (S':=(SN u H hh)) X ⟨λb hb=> .inl hb,λ_ _=>rfl,Nat.le_refl _⟩
       have X:Sl _ _ Bu ev c.Band.Hi:=X
       have hsF:=hsN.fz
       obtain⟨b7,a6,rfl,hi⟩:=(V).len
       obtain⟨b8,a7,rfl,hj⟩:=(W).len
       obtain⟨b9,a8,rfl,hk⟩:=(X).len
       refine D0 (cs:=[(.slice b7 c.Rate.length a6),(.slice b8 c.Band.Lo.length a7),(.slice b9 c.Band.Hi.length a8)]) aJ O O O O O O O hsF λhl hm ca ai=>?_
       have ew:=X.mono' ai
       have ey:=W.mono' ai
       have ez:=V.mono' ai
       have cb:=ca.bxos (r:=(AN.sl Bu)) (l:=([c.Rate,c.Band.Lo,c.Band.Hi]:List (List BT))) .head ⟨_,_,O,⟨_,O,ez⟩,⟨_,_,O,⟨_,O,ey⟩,⟨_,_,O,⟨_,O,ew⟩,O⟩⟩⟩ (by simp [maxLen])
       obtain⟨hn,cc,e0,e1⟩:=cb.pubs .head
       have ar:=Fz.done o (ai.trans e0) cc
       exact C1 ar.1 ⟨Sl.mono' e1 ar.2,_,O⟩
      refine A7.cons O ?_ ?_
      ·intro mq hh o
       intro ho au
       have hsN:=SN.st d o
       obtain⟨au,gr,rfl⟩:=au
       refine Bf O O O fC O hsN (NP (St.all _) (au.mono (λb hb=>hsN.1 b hb) (λ_ _=>rfl)) b4) λhp hq ht gs hu bk p=>?_
       obtain⟨rfl,e2,gt⟩:=p
       exact C1 ⟨bk.siz,λb hb=>bk.same b hb⟩ ⟨O,e2⟩
      exact A7.cons O (λ_ _ _=>by intro hv e3 hx e4;obtain ⟨rfl,hy⟩:=e3;obtain ⟨rfl,hz⟩:=e4;exact AI 1 (Ai O (AQ ⟨O,(BG _)⟩))) (A7.cons O (λ_ _ o=>by intro h0 e6 h4 e7;cases e6;obtain ⟨rfl,h5⟩:=e7;exact AI 1 (A0 (o.st d) (mt mh) O O BR b5 O λh6 cd=>AQ cd)) trivial)
     intro h7 av h8 e8 h9 e9
     have ce:=SN.st d av
     obtain⟨rfl,fb⟩:=e8
     obtain⟨fc,cf,E⟩:=bd E
     refine Er (r:=AN.int) (l:=D) (i:=c.From) (x:=fc) O O (⟨_,O,O,fb⟩:Rd _ _ AN.int _ (BM (J+K))) e9 cf Lr.id Ae (λ_=>rfl) ce (.tail .head) λia A bl=>AZ (kp [7,33,32,3,34] O) (AH (AD Ht O (AT A6 A O mh O Ae O (Bl O (AM (kp [61,7,33,32,3,34] O) (AX O E (λfd E=>?_) (λfd E=>?_)))))))
     ·refine LD 12 mo (by kernel_rfl) O A (AA O (AD Ht O (AT Bg A O mh O Ae O ?_)))
      obtain⟨ib,cg,E⟩:=bd E
      refine A0 A (mt mh) O O BR cg O λic ch=>?_
      obtain⟨bm,ci,E⟩:=bd E
      have fe:=A.epAt (mt mh) ci FL.id ch
      refine Ag Bg (λ_ x=>x) O fe Ae O λie=>AD Kl O (AT Bg A O mh O Ae O (AD J1 O (AT Bg A O mh O Ae O ?_)))
      obtain⟨bn,cj,E⟩:=bd E
      refine CX O O O Qs O (λh' o=>G6 (St.all h') bi bj cj) λff=>?_
      have ig:=ff
      refine Ai O ?_
      obtain⟨ih,ck,E⟩:=bd E
      refine A0 A (mt mh) O O BR ck O λii cl=>Jp λij cm fg=>?_
      obtain⟨fh,cn,E⟩:=bd E
      refine Er (r:=AN.int) (l:=(upd D c.From (BM (J+K)))) (i:=c.To) (x:=fh) O O (⟨_,O,O,(BG _)⟩:Rd _ _ AN.int _ (BM (bm+bn))) cl cn Lr.id Ae (λ_=>rfl) cm (.tail .head) λik co fi=>AZ (kp [33,32,3,34] O) (BP (WF.nil (λy z g j=>?_)))
      have cp:=co.sel [1] 1 O
      exact⟨(upd (upd D c.From (BM (J+K))) c.To (BM (bm+bn))),_,_,g.sub (kp [33,32,3,34] O),j,cp,(U.trans (I.trans ((SN.ext d.1 av).trans (bl.trans (fg.trans fi))))),E⟩
     refine AO (BP (WF.nil (λy z g j=>?_)))
     have cq:=A.sel [1] 1 O
     exact⟨(upd D c.From (BM (J+K))),_,_,g.sub (kp [33,32,3,34] O),j,cq,(U.trans (I.trans ((SN.ext d.1 av).trans bl))),E⟩
    refine AC (AH (BK O (AL O (kp [74,39,7,33,32,3,34] O) (Ga (λa w=>∃(aw:Bool),IV B u H (128,[]) a w [(39,vI c.Kind),(7,vP F 0),(33,vI (↑s.Links.length:Int)),(32,ap),(3,t),(34,vI M),(74,.bool aw)] (Bx F 67 [.string c.Name,vI c.Kind,vI c.From,vI c.To,af,ag,ah,vI c.Positions,vI c.Speed,vI c.Leak,vI c.Crest,vI c.Num,vI c.Den,vI c.Prime,vI c.Break,vI c.BackNum,vI c.BackDen,vI c.Delay]::OS AN.int 3 t D::L) λ_ _=>DB N D c (B7 N M (BS N s (CG N) n3)) aw=some r) ?_ ?_))))
    ·refine AX O E (λfj E=>?_) (λfj E=>?_)
     ·refine AO (WF.nil (λy z g j=>?_))
      exact⟨(decide (c.Kind=1)),_,_,g.sub (kp [39,7,33,32,3,34,74] O),j,d,(B9.refl u H),E⟩
     refine AH (BK O (AL O (kp [74,39,7,33,32,3,34] O) (Ga (λa w=>∃(aj:Bool),IV B u H (128,[]) a w [(39,vI c.Kind),(7,vP F 0),(33,vI (↑s.Links.length:Int)),(32,ap),(3,t),(34,vI M),(74,.bool aj)] (Bx F 67 [.string c.Name,vI c.Kind,vI c.From,vI c.To,af,ag,ah,vI c.Positions,vI c.Speed,vI c.Leak,vI c.Crest,vI c.Num,vI c.Den,vI c.Prime,vI c.Break,vI c.BackNum,vI c.BackDen,vI c.Delay]::OS AN.int 3 t D::L) λ_ _=>GZ N (DB N D c (B7 N M (BS N s (CG N) n3))) aj=some r) ?_ ?_)))
     ·refine AX O E (λfk E=>?_) (λfk E=>?_)
      ·refine AO (WF.nil (λy z g j=>?_))
       exact⟨(decide (c.Kind=5)),_,_,g.sub (kp [39,7,33,32,3,34,74] O),j,d,(B9.refl u H),E⟩
      refine BY (.inl O) (BK O (AL O (kp [74,39,7,33,32,3,34] O) (WF.nil (λy z g j=>?_))))
      exact⟨(decide (c.Kind=3)),_,_,g.sub (kp [39,7,33,32,3,34,74] O),j,d,(B9.refl u H),E⟩
     rintro y z ⟨aj,il,im,g,j,cr,fl,E⟩
     refine Ac ?_ g j
     clear g j z y
     rw[GZ] at E
     refine WF.nil (λy z g j=>?_)
     exact⟨aj,_,_,g.sub (kp [39,7,33,32,3,34,74] O),j,cr,fl,E⟩
    rintro y z ⟨aw,io,ip,g,j,k,ax,E⟩
    refine Ac ?_ g j
    clear g j z y
    rw[DB] at E
    refine AX O E (λfm E=>?_) (λfm E=>?_)
    ·refine LD 12 mo (by kernel_rfl) O k (AA O (AD JJ O (AT Bg k O mh O Ae O ?_)))
     obtain⟨ir,ct,E⟩:=bd E
     refine A0 k (mt mh) O O BR ct O λit cu=>?_
     obtain⟨bo,cv,E⟩:=bd E
     have fn:=k.epAt (mt mh) cv FL.id cu
     refine Ag Bg (λ_ x=>x) O fn Ae O λiu=>AD IT O (AT Bg k O mh O Ae O (AD JK O (AT Bg k O mh O Ae O ?_)))
     obtain⟨bp,cw,E⟩:=bd E
     refine CX O O O Qs O (λh' o=>G6 (St.all h') bg bh cw) λfo=>?_
     have iv:=fo
     refine Ai O ?_
     obtain⟨iw,cx,E⟩:=bd E
     refine A0 k (mt mh) O O BR cx O λiy cy=>Jp λiz cz fp=>?_
     obtain⟨fq,c0,E⟩:=bd E
     refine Er (r:=AN.int) (l:=D) (i:=c.From) (x:=fq) O O (⟨_,O,O,(BG _)⟩:Rd _ _ AN.int _ (BM (bo+bp))) cy c0 Lr.id Ae (λ_=>rfl) cz (.tail .head) λi0 c1 fr=>AZ (kp [33,32,3,34] O) (BP (WF.nil (λy z g j=>?_)))
     have c2:=c1.sel [1] 1 O
     exact⟨(upd D c.From (BM (bo+bp))),_,_,g.sub (kp [33,32,3,34] O),j,c2,(U.trans (I.trans (ax.trans (fp.trans fr)))),E⟩
    refine AH (BK O (AL O (kp [90,7,33,32,3,34] O) (AX O E (λfs E=>?_) (λfs E=>?_))))
    ·refine AC (LD 13 mo (by kernel_rfl) O k (AA O (AD JJ O (AT Bg k O mh O Ae O ?_))))
     obtain⟨i1,c3,E⟩:=bd E
     refine A0 k (mt mh) O O BR c3 O λi2 c4=>?_
     obtain⟨ay,c5,E⟩:=bd E
     have ft:=k.epAt (mt mh) c5 FL.id c4
     refine Ag Bg (λ_ x=>x) O ft Ae O λi3=>AD IT O (AT Bg k O mh O Ae O (AD JK O (AT Bg k O mh O Ae O ?_)))
     obtain⟨az,c6,E⟩:=bd E
     refine CX O O O Qs O (λh' o=>G6 (St.all h') bg bh c6) λfu=>?_
     have i4:=fu
     refine Uv O O O (Ai O ?_)
     obtain⟨i5,c7,E⟩:=bd E
     refine A0 k (mt mh) O O BR c7 O λi6 c8=>Jp λi7 c9 fv=>?_
     obtain⟨fw,da,E⟩:=bd E
     refine Er (r:=AN.int) (l:=D) (i:=c.From) (x:=fw) O O (⟨_,O,O,(BG _)⟩:Rd _ _ AN.int _ (BM (ay+(BM (2*az))))) c8 da Lr.id Ae (λ_=>rfl) c9 (.tail .head) λi8 G fx=>AZ (kp [7,33,32,3,34] O) (LD 13 mo (by kernel_rfl) O G (AA O (AD Ht O (AT Bg G O mh O Ae O ?_))))
     obtain⟨i9,db,E⟩:=bd E
     refine A0 G (mt mh) O O BR db O λja dc=>?_
     obtain⟨bq,dd,E⟩:=bd E
     have fy:=G.epAt (mt mh) dd FL.id dc
     refine Ag Bg (λ_ x=>x) O fy Ae O λjb=>AD Kl O (AT Bg G O mh O Ae O (AD J1 O (AT Bg G O mh O Ae O ?_)))
     obtain⟨br,de,E⟩:=bd E
     refine CX O O O Qs O (λh' o=>G6 (St.all h') bi bj de) λf0=>?_
     have jc:=f0
     refine Uv O O O (Ai O ?_)
     obtain⟨jd,df,E⟩:=bd E
     refine A0 G (mt mh) O O BR df O λje dg=>Jp λjf dh f1=>?_
     obtain⟨f2,di,E⟩:=bd E
     refine Er (r:=AN.int) (l:=(upd D c.From (BM (ay+(BM (2*az)))))) (i:=c.To) (x:=f2) O O (⟨_,O,O,(BG _)⟩:Rd _ _ AN.int _ (BM (bq+(BM (2*br))))) dg di Lr.id Ae (λ_=>rfl) dh (.tail .head) λjg dj f3=>AZ (kp [33,32,3,34] O) (BP (WF.nil (λy z g j=>?_)))
     have dk:=dj.sel [1] 1 O
     exact⟨(upd (upd D c.From (BM (ay+(BM (2*az))))) c.To (BM (bq+(BM (2*br))))),_,_,g.sub (kp [33,32,3,34] O),j,dk,(U.trans (I.trans (ax.trans (fv.trans (fx.trans (f1.trans f3)))))),E⟩
    refine AO (BP (WF.nil (λy z g j=>?_)))
    have dl:=k.sel [1] 1 O
    exact⟨D,_,_,g.sub (kp [33,32,3,34] O),j,dl,(U.trans (I.trans ax)),E⟩
   rintro y z ⟨ae,jh,ji,g,j,dm,f4,E⟩
   refine Ac ?_ g j
   clear g j z y
   rw[B7] at E
   refine BY (.inl O) (Ai O (AA O (AM (kp [34,33,32,3] O) (WF.nil (λy z g j=>?_)))))
   exact⟨(BM (M+1)),ae,_,_,g.sub (kp [33,32,3,34] O),j,dm,(aq.trans f4),(BG _),E⟩
  refine BA O (λy z g j=>?_)
  exact⟨D,_,_,g.sub (kp [3] O),j,ac,aq,E⟩
 rintro y z ⟨am,a0,a1,g,j,a2,bs,E⟩
 refine Ac ?_ g j
 clear g j z y
 rw[CG] at E
 refine AC (AH (AA O (K7 a2 mh O BR O λjj=>AA O (AM (kp [121,120,119] O) (Aj (λa w=>IV B a0 a1 (128,[]) a w [] (L) λ_ _=>ES N=some r) ?_ ?_)))))
 ·refine A3 (λn8=>λa w=>∃(Z:Int),IV B a0 a1 (128,[]) a w [(120,vI (↑am.length:Int)),(119,t),(121,vI Z)] (OS AN.int 3 t am::L) λ_ _=>AE Z∧C9 N am (ES N) n8 Z=some r) N ?_ ?_ ?_
  ·intro y z g j
   exact⟨0,_,_,g.sub (kp [120,119,121] O),j,a2,(B9.refl a0 a1),(iq (n:=0) O),E⟩
  ·rintro y z ⟨_,_,_,_,_,_,_,_,E⟩
   rw[C9] at E;cases E
  rintro n8 y z ⟨Z,jk,jl,g,j,Q,a3,jm,E⟩
  refine Ac ?_ g j
  clear g j z y
  rw[C9] at E
  refine AH (Ao O (AM (kp [122,120,119,121] O) (AC (AX O E (λf5 E=>?_) (λf5 E=>?_)))))
  ·refine AO (AC (A8 (AH ?_)))
   obtain⟨jn,dn,E⟩:=bd E
   refine A0 Q mh O O BR dn O λjo dp=>?_
   obtain⟨jp,dq,E⟩:=bd E
   have f6:=Q.epAt mh dq FL.id dp
   refine Ag A6 (λ_ x=>x) O f6 Ae O λjq=>AL O (kp [9,120,119,121] O) (AH (AA O (Bk O (AM (kp [126,120,119,121] O) (AX O E (λf7 E=>?_) (λf7 E=>?_))))))
   ·refine AH (AL O (kp [2] O) (Ad (λy z g j=>?_)))
    have dr:=Q.drop .head
    cases E
    exact Dr g j O O (e5.trans (bu.trans (bz.trans (bs.trans a3)))) ⟨O,dr⟩
   refine AO (BP (BY (.inl O) (Ai O (AA O (AM (kp [121,120,119] O) (WF.nil (λy z g j=>?_)))))))
   exact⟨(BM (Z+1)),_,_,g.sub (kp [120,119,121] O),j,Q,a3,(BG _),E⟩
  refine BA O (λy z g j=>?_)
  have ds:=Q.drop .head
  exact⟨_,_,g.sub Ov,j,ds,a3,E⟩
 rintro y z ⟨jr,js,g,j,dt,f8,E⟩
 refine Ac ?_ g j
 clear g j z y
 rw[ES] at E
 refine AH (AL O (kp [2] O) (Ad (λy z g j=>?_)))
 cases E
 exact Dr g j O O (e5.trans (bu.trans (bz.trans (bs.trans f8)))) ⟨O,dt⟩
end Go.Proofs.YtblcgjadhemlbaaGreat
