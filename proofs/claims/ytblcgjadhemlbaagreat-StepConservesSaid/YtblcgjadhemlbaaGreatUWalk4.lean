import Derived.Test.YtblcgjadhemlbaaGreatUWalk3
namespace Go.Proofs.YtblcgjadhemlbaaGreat
open Go.RowKit
set_option linter.unusedVariables false
set_option linter.unusedSimpArgs false
set_option maxRecDepth 10000
set_option maxHeartbeats 2000000
variable {N:Nat}{S:Nat→Prop}{L:List HP}{h:Av}
theorem MX (hs:St S L h) {p:Value}{u:AW}(D:Rd S h B3 p u) {r:Bool}(E:Gr N u=some r):
 CG Tryz.prog 50 #[p] S h (λv S' h'=>v= .bool r∧St S' (L) h'):=by
 refine BB (l:=[p]) 51 Tryz.func50 O Tryz.ntmps50 O λB=>?_
 rw[Gr] at E
 refine WF.sl (B5 O D (λe=>by cases e) O hs λq1 S2 h3 ad e5 k6=>AH 1 (AY O (AF (AZ (kp [1] O) (AD (AI (Ai O k6 Eo HA O λq7 k8=>An A6 ad.1 O k8 Ju O λv9 ae=>Al O ae H4 O λbp=>AA O (AN (kp [8,7,6,1] O) (Am (λa w=>IV B S2 h3 (51,[]) a w [] (L) λ_ _=>Ed N=some r) ?_ ?_)))))))))
 ·refine A3 (λn1=>λa w=>∃(z:Int),IV B S2 h3 (51,[]) a w [(7,vI (↑u.Links.length:Int)),(6,v9),(1,q1),(8,vI z)] (L) λ_ _=>AG z∧DH N u (Ed N) n1 z=some r) N ?_ ?_ ?_
  ·intro F G s t
   exact⟨0,_,_,s.sub (kp [7,6,1,8] O),t,ad,(B9.refl S2 h3),(iq (n:=0) O),E⟩
  ·rintro F G ⟨_,_,_,_,_,_,_,_,E⟩
   rw[DH] at E;cases E
  rintro n1 F G ⟨z,bq,br,s,t,A,y,bs,E⟩
  refine Ad ?_ s t
  clear s t G F
  rw[DH] at E
  refine AI (Aq O (AN (kp [9,7,6,1,8] O) (AD (AX O E (λbc E=>?_) (λbc E=>?_)))))
  ·refine AT (AD (A5 (WF.sl (AH 2 ?_))))
   obtain⟨b,af,E⟩:=bd E
   refine BD O O (ae.mono' y) H4 af O λbt be=>B4 A6 A.1 O be HV (λe=>by cases e) O λbu bf=>AF (Cs OQ O A λbv bw ag C=>?_)
   obtain⟨H,I,J,rfl,ah,Q,K,U,V,W,X,ai,aj,ak,am,an,ao,ap,aq,ar,au,Y⟩:=Bu.ex (bf.mono C)
   refine HJ (vs:=[.string b.Name,vI b.Kind,vI b.From,vI b.To,H,I,J,vI b.Positions,vI b.Speed,vI b.Leak,vI b.Crest,vI b.Num,vI b.Den,vI b.Prime,vI b.Break,vI b.BackNum,vI b.BackDen,vI b.Delay]) (cs':=[.string b.Name,vI b.Kind,vI b.From,vI b.To,H,I,J,vI b.Positions,vI b.Speed,vI b.Leak,vI b.Crest,vI b.Num,vI b.Den,vI b.Prime,vI b.Break,vI b.BackNum,vI b.BackDen,vI b.Delay]) O O O (AE O (AE O (AE O (AE O (AE V.one (AE W.one (AE X.one (AE O (AE O (AE O (AE O (AE O (AE O (AE O (AE O (AE O (AE O (AE O EA)))))))))))))))))) HV O ag .head O O λbx c m=>AZ (kp [4,7,6,1,8] O) (AD (Bl (.inl O) c (AC GD O (AS Bb c O mh O Ag O ?_))))
   obtain⟨bg,av,E⟩:=bd E
   refine Az O O O Hn O (λh' o=>Bp (St.all h') Q (iq (n:=0) O) (iq (n:=5) O) av) (BV O (AA O ?_))
   obtain⟨aw,d,E⟩:=bd E
   refine AV 8 24 (.bool aw) ?_ ?_
   ·cases ax:(!bg)
    ·have d:=GB ax d
     refine AB O (AC JG O (AB O (AS Bb c O mh O Ag O (AB O (Ai O (k6.mono (y.trans (C.trans m))) BU DI O λbz bh=>AB O (An Bb c.1 O bh GO O λb0 bi=>AB O (Al O bi qZ O λbj=>AB O ?_)))))))
     obtain⟨b1,ay,d⟩:=bd d
     refine Az O O O Px O (λh' o=>GK (St.all h') K (JW bj) ay) (AB O (BV O (AJ O ?_)))
     cases d
     exact AU O
    have d:=GA ax d
    cases d
    exact Aa O O
   refine AA O ?_
   obtain⟨az,g,E⟩:=bd E
   refine AV 8 33 (.bool az) ?_ ?_
   ·cases a0:aw
    ·have g:=GB a0 g
     refine AB O (B4 Bb c.1 O (k6.mono (y.trans (C.trans m))) G8 (λe=>by cases e) O λb2 bk=>AB O (AC JG O (AB O (AS Bb c O mh O Ag O (AB O (AC Hs O (AB O (AS Bb c O mh O Ag O (AB O ?_)))))))))
     obtain⟨b3,a1,g⟩:=bd g
     refine Az O O O Zd O (λh' o=>LU (St.all h') (bk.mono (o.all c.1)) K U a1) (AB O (BV O (AJ O ?_)))
     cases g
     exact AU O
    have g:=GA a0 g
    cases g
    exact Aa O O
   refine AA O ?_
   obtain⟨a2,i,E⟩:=bd E
   refine AV 5 39 (.bool a2) ?_ ?_
   ·cases a3:az
    ·have i:=GB a3 i
     refine AB O (AC Nq O (AB O (AS Bb c O mh O Ag O (AB O ?_))))
     obtain⟨b4,a4,i⟩:=bd i
     refine Az O O O Hn O (λh' o=>Bp (St.all h') Y (iq (n:=0) O) (iq (n:=240) O) a4) (AB O (BV O (AJ O ?_)))
     cases i
     exact AU O
    have i:=GA a3 i
    cases i
    exact Aa O O
   refine AA O ?_
   obtain⟨a5,j,E⟩:=bd E
   refine AV 4 44 (.bool a5) ?_ ?_
   ·cases a6:a2
    ·have j:=GB a6 j
     refine AB O (DT (vs:=[.string b.Name,vI b.Kind,vI b.From,vI b.To,H,I,J,vI b.Positions,vI b.Speed,vI b.Leak,vI b.Crest,vI b.Num,vI b.Den,vI b.Prime,vI b.Break,vI b.BackNum,vI b.BackDen,vI b.Delay]) Bb c O mh O O HV O O (AB O ?_))
     obtain⟨b5,a7,j⟩:=bd j
     refine Az O O O fO O (λh' o=>MA (St.all h') (Bu.mk (x:=b) ah Q K U ((V.mono' m).mono' (o.all c.1)) ((W.mono' m).mono' (o.all c.1)) ((X.mono' m).mono' (o.all c.1)) ai aj ak am an ao ap aq ar au Y) a7) (AB O (BV O (AJ O ?_)))
     cases j
     exact AU O
    have j:=GA a6 j
    cases j
    exact Aa O O
   refine AA O ?_
   obtain⟨bl,k,E⟩:=bd E
   refine AV 4 49 (.bool bl) ?_ ?_
   ·cases a8:a5
    ·have k:=GB a8 k
     refine AB O (DT (vs:=[.string b.Name,vI b.Kind,vI b.From,vI b.To,H,I,J,vI b.Positions,vI b.Speed,vI b.Leak,vI b.Crest,vI b.Num,vI b.Den,vI b.Prime,vI b.Break,vI b.BackNum,vI b.BackDen,vI b.Delay]) Bb c O mh O O HV O O (AB O ?_))
     obtain⟨b6,a9,k⟩:=bd k
     refine Az O O O fN O (λh' o=>L6 (St.all h') (Bu.mk (x:=b) ah Q K U ((V.mono' m).mono' (o.all c.1)) ((W.mono' m).mono' (o.all c.1)) ((X.mono' m).mono' (o.all c.1)) ai aj ak am an ao ap aq ar au Y) a9) (AB O (BV O (AJ O ?_)))
     cases k
     exact AU O
    have k:=GA a8 k
    cases k
    exact Aa O O
   refine BJ (kp [49,7,6,1,8] O) λb7 M ba=>AX O E (λbm E=>?_) (λbm E=>?_)
   ·refine AI (AL O (kp [2] O) (Ac (λF G s t=>?_)))
    have Z:=M.drop .head
    cases E
    exact Dm s t O O (e5.trans (y.trans (C.trans (m.trans ba)))) ⟨O,Z⟩
   refine AT (BK (BY (.inl O) (Af O (AA O (AN (kp [8,7,6,1] O) (WF.nil (λF G s t=>?_)))))))
   have ab:=M.drop .head
   exact⟨(BC (z+1)),_,_,s.sub (kp [7,6,1,8] O),t,ab,(y.trans (C.trans (m.trans ba))),(BI _),E⟩
  refine A9 O (λF G s t=>?_)
  exact⟨_,_,s.sub Ou,t,A,y,E⟩
 rintro F G ⟨bn,bo,s,t,ac,bb,E⟩
 refine Ad ?_ s t
 clear s t G F
 rw[Ed] at E
 refine AI (AL O (kp [2] O) (Ac (λF G s t=>?_)))
 cases E
 exact Dm s t O O (e5.trans bb) ⟨O,ac⟩
theorem MY (hs:St S L h) {b:Value}{j:AW}(d:Rd S h B3 b j) {a:Int}(g:AG a) {c:Int}(m:AG c) {r:Bool}(E:Ig N j a c=some r):
 CG Tryz.prog 78 #[b,vI a,vI c] S h (λv S' h'=>v= .bool r∧St S' (L) h'):=by
 refine BB (l:=[b,vI a,vI c]) 27 Tryz.func78 O Tryz.ntmps78 O λB=>?_
 rw[Ig] at E
 refine WF.sl (B5 O d (λe=>by cases e) O hs λJ S2 K i w x=>AH 1 (AY O (AF (AZ (kp [3,1,2] O) (AD (AI (AA O (BH O (AN (kp [9,3,1,2] O) (AX O E (λy E=>?_) (λy E=>?_)))))))))))
 ·refine AI (AA O (BH O (AL O (kp [6] O) (Ac (λz A o p=>?_)))))
  cases E
  exact Dm o p O O w ⟨O,i⟩
 refine AT (AI (Ai O x BU DI O λM C=>An A6 i.1 O C GO O λD s=>AA O ?_))
 obtain⟨k,n,E⟩:=bd E
 refine BD O O s qZ n O λF t=>Ai O t IA Lj O λG u=>Ah A6 i.1 O u Ag O λH=>AL O (kp [7,1] O) (AI (AA O (AA O (BH O (AA O (AV 5 26 (.bool ((decide (k.Office=a))||(decide (k.Office=(BC (a+1)))))) ?_ ?_))))))
 ·cases I:(decide (k.Office=a))
  ·exact AB O (AA O (AB O (AA O (AB O (Af O (AB O (BH O (AJ O (AU O)))))))))
  exact Aa O O
 refine AL O (kp [6] O) (Ac (λz A o p=>?_))
 cases E
 exact Dm o p O O w ⟨O,i⟩
theorem Lp (hs:St S L h) {p:Value}{m:AW}(I:Rd S h B3 p m) {r:Bool}(E:F7 N m=some r):
 CG Tryz.prog 51 #[p] S h (λv S' h'=>v= .bool r∧St S' (L) h'):=by
 refine BB (l:=[p]) 60 Tryz.func51 O Tryz.ntmps51 O λB=>?_
 rw[F7] at E
 refine WF.sl (B5 O I (λe=>by cases e) O hs λq1 S2 h3 am e5 k6=>AH 1 (AY O (AF (AZ (kp [1] O) (AD (AI (Ai O k6 BU DI O λq7 k8=>An A6 am.1 O k8 GO O λv9 an=>Al O an qZ O λcu=>AA O (AN (kp [11,10,9,1] O) (Am (λa w=>IV B S2 h3 (60,[]) a w [(1,q1)] (L) λ_ _=>Cq N m=some r) ?_ ?_)))))))))
 ·refine A3 (λn1=>λa w=>∃(x:Int),IV B S2 h3 (60,[]) a w [(10,vI (↑m.Places.length:Int)),(9,v9),(1,q1),(11,vI x)] (L) λ_ _=>AG x∧Cp N m (Cq N m) n1 x=some r) N ?_ ?_ ?_
  ·intro s t j k
   exact⟨0,_,_,j.sub (kp [10,9,1,11] O),k,am,(B9.refl S2 h3),(iq (n:=0) O),E⟩
  ·rintro s t ⟨_,_,_,_,_,_,_,_,E⟩
   rw[Cp] at E;cases E
  rintro n1 s t ⟨x,cv,cw,j,k,y,z,cx,E⟩
  refine Ad ?_ j k
  clear j k t s
  rw[Cp] at E
  refine AI (Aq O (AN (kp [12,10,9,1,11] O) (AD (AX O E (λbm E=>?_) (λbm E=>?_)))))
  ·refine AT (AD (A5 (WF.sl (AH 2 ?_))))
   obtain⟨d,ao,E⟩:=bd E
   refine BD O O (an.mono' z) qZ ao O λcy bn=>B4 A6 y.1 O bn Jt (λe=>by cases e) O λcz bo=>AF (Cs OR O y λc0 c1 ap J=>?_)
   obtain⟨aq,ar,au,rfl,c2,c3,bp,c4,bq,br,c5,c6,bs,c7,c8,bt⟩:=Bw.ex (bo.mono J)
   refine HJ (vs:=[.string d.Name,vI d.Kind,vI d.Office,vI d.Cap,aq,ar,vI d.Num,vI d.Den,vI d.Down,vI d.Delay,vI d.Floor,au]) (cs':=[.string d.Name,vI d.Kind,vI d.Office,vI d.Cap,aq,ar,vI d.Num,vI d.Den,vI d.Down,vI d.Delay,vI d.Floor,au]) O O O (AE O (AE O (AE O (AE O (AE bq.one (AE br.one (AE O (AE O (AE O (AE O (AE O (AE bt.one EA)))))))))))) Jt O ap .head O O λc9 u ab=>AZ (kp [4,10,9,1,11] O) (AD (Bl (.inl O) u (B4 Bb u.1 O (k6.mono (z.trans (J.trans ab))) G8 (λe=>by cases e) O λda bu=>AC Lj O (AS Bb u O mh O Ag O (AC PK O (AS Bb u O mh O Ag O ?_))))))
   obtain⟨db,av,E⟩:=bd E
   refine Az O O O Zc O (λh' o=>MY (St.all h') (bu.mono (o.all u.1)) bp bs av) (BV O (BJ (kp [21,10,9,1,11] O) λdc M aw=>AX O E (λbv E=>?_) (λbv E=>?_)))
   ·refine AI (AL O (kp [2] O) (Ac (λs t j k=>?_)))
    have ax:=M.drop .head
    cases E
    exact Dm j k O O (e5.trans (z.trans (J.trans (ab.trans aw)))) ⟨O,ax⟩
   refine AT (BK (BY (.inl O) (Af O (AA O (AN (kp [11,10,9,1] O) (WF.nil (λs t j k=>?_)))))))
   have ay:=M.drop .head
   exact⟨(BC (x+1)),_,_,j.sub (kp [10,9,1,11] O),k,ay,(z.trans (J.trans (ab.trans aw))),(BI _),E⟩
  refine A9 O (λs t j k=>?_)
  exact⟨_,_,j.sub (kp [1] O),k,y,z,E⟩
 rintro s t ⟨ac,ad,j,k,Q,ae,E⟩
 refine Ad ?_ j k
 clear j k t s
 rw[Cq] at E
 refine AD (AI ?_)
 have az:=k6.mono ae
 refine Ai O az Eo HA O λdd bw=>An A6 Q.1 O bw Ju O λbx a0=>Al O a0 H4 O λde=>AA O (AN (kp [26,25,24,1] O) (Am (λa w=>IV B ac ad (60,[]) a w [] (L) λ_ _=>D3 N=some r) ?_ ?_))
 ·refine A3 (λn3=>λa w=>∃(A:Int),IV B ac ad (60,[]) a w [(25,vI (↑m.Links.length:Int)),(24,bx),(1,q1),(26,vI A)] (L) λ_ _=>AG A∧Co N m (D3 N) n3 A=some r) N ?_ ?_ ?_
  ·intro s t j k
   exact⟨0,_,_,j.sub (kp [25,24,1,26] O),k,Q,(B9.refl ac ad),(iq (n:=0) O),E⟩
  ·rintro s t ⟨_,_,_,_,_,_,_,_,E⟩
   rw[Co] at E;cases E
  rintro n3 s t ⟨A,df,dg,j,k,C,D,dh,E⟩
  refine Ad ?_ j k
  clear j k t s
  rw[Co] at E
  refine AI (Aq O (AN (kp [27,25,24,1,26] O) (AD (AX O E (λbz E=>?_) (λbz E=>?_)))))
  ·refine AT (AD (A5 (WF.sl (AH 2 ?_))))
   obtain⟨b,a1,E⟩:=bd E
   refine BD O O (a0.mono' D) H4 a1 O λdi b0=>B4 A6 C.1 O b0 HV (λe=>by cases e) O λdj b1=>AF (Cs OQ O C λdk dl a2 K=>?_)
   obtain⟨U,V,W,rfl,dm,dn,dp,b2,a3,a4,a5,b3,b4,b5,b6,b7,b8,b9,ca,cb,cc,cd⟩:=Bu.ex (b1.mono K)
   refine HJ (vs:=[.string b.Name,vI b.Kind,vI b.From,vI b.To,U,V,W,vI b.Positions,vI b.Speed,vI b.Leak,vI b.Crest,vI b.Num,vI b.Den,vI b.Prime,vI b.Break,vI b.BackNum,vI b.BackDen,vI b.Delay]) (cs':=[.string b.Name,vI b.Kind,vI b.From,vI b.To,U,V,W,vI b.Positions,vI b.Speed,vI b.Leak,vI b.Crest,vI b.Num,vI b.Den,vI b.Prime,vI b.Break,vI b.BackNum,vI b.BackDen,vI b.Delay]) O O O (AE O (AE O (AE O (AE O (AE a3.one (AE a4.one (AE a5.one (AE O (AE O (AE O (AE O (AE O (AE O (AE O (AE O (AE O (AE O (AE O EA)))))))))))))))))) HV O a2 .head O O λce c F=>AZ (kp [6,25,24,1,26] O) (AI ?_)
   have G:=az.mono (D.trans (K.trans F))
   refine Ai O G BU DI O λcf a6=>An A6 c.1 O a6 GO O λcg a7=>AC JG O (AS A6 c O mh O Ag O ?_)
   obtain⟨ch,af,E⟩:=bd E
   refine BD O O a7 qZ af O λci a8=>Ai O a8 IA Lj O λcj a9=>Ah A6 c.1 O a9 Ag O λba=>AL O (kp [7,6,25,24,1,26] O) (AD (Bl (.inl O) c (B4 Bb c.1 O G G8 (λe=>by cases e) O λck bb=>AA O (AC Hs O (AS Bb c O mh O Ag O ?_)))))
   obtain⟨bc,ag,E⟩:=bd E
   refine Az O O O Zc O (λh' o=>MY (St.all h') (bb.mono (o.all c.1)) ba b2 ag) (BV O (AA O ?_))
   obtain⟨be,g,E⟩:=bd E
   refine AV 15 58 (.bool be) ?_ ?_
   ·cases X:(!bc)
    ·have g:=GB X g
     refine AB O (AC GD O (AB O (AS Bb c O mh O Ag O (AB O (BH O (AB O (AA O ?_)))))))
     obtain⟨bf,i,g⟩:=bd g
     refine AV 10 57 (.bool bf) ?_ ?_
     ·cases Y:(decide (b.Kind=4))
      ·have i:=GB Y i
       cases i
       exact Aa O O
      have i:=GA Y i
      refine AB O (Ai O G BU DI O λcl bg=>AB O (An Bb c.1 O bg GO O λcm bh=>AB O (AC Hs O (AB O (AS Bb c O mh O Ag O (AB O ?_))))))
      obtain⟨cn,ah,i⟩:=bd i
      refine BD O O bh qZ ah O λco bi=>AB O (Ai O bi IA Lj O λcp bj=>AB O (Ah Bb c.1 O bj Ag O λcq=>AB O (AA O (AB O (Bc O (AB O (AJ O ?_)))))))
      cases i
      exact AU O
     refine AJ O ?_
     cases g
     exact AU O
    have g:=GA X g
    cases g
    exact Aa O O
   refine BJ (kp [58,25,24,1,26] O) λcr H Z=>AX O E (λbk E=>?_) (λbk E=>?_)
   ·refine AI (AL O (kp [2] O) (Ac (λs t j k=>?_)))
    have ai:=H.drop .head
    cases E
    exact Dm j k O O (e5.trans (ae.trans (D.trans (K.trans (F.trans Z))))) ⟨O,ai⟩
   refine AT (BK (BY (.inl O) (Af O (AA O (AN (kp [26,25,24,1] O) (WF.nil (λs t j k=>?_)))))))
   have aj:=H.drop .head
   exact⟨(BC (A+1)),_,_,j.sub (kp [25,24,1,26] O),k,aj,(D.trans (K.trans (F.trans Z))),(BI _),E⟩
  refine A9 O (λs t j k=>?_)
  exact⟨_,_,j.sub Ou,k,C,D,E⟩
 rintro s t ⟨cs,ct,j,k,ak,bl,E⟩
 refine Ad ?_ j k
 clear j k t s
 rw[D3] at E
 refine AI (AL O (kp [2] O) (Ac (λs t j k=>?_)))
 cases E
 exact Dm j k O O (e5.trans (ae.trans bl)) ⟨O,ak⟩
theorem G6 (hs:St S L h) {b:Int}(q:AG b) {c:Int}(s:AG c) {r:Int}(E:Em N b c=some r):
 CG Tryz.prog 79 #[vI b,vI c] S h (λv S' h'=>v=vI r∧AG r∧St S' (L) h'):=by
 refine BB (l:=[vI b,vI c]) 34 Tryz.func79 O Tryz.ntmps79 O λB=>?_
 rw[Em] at E
 refine AI (AL O (kp [0,1] O) (AD (AI (AA O (BH O (AN (kp [10,0,1] O) (AX O E (λJ E=>?_) (λJ E=>?_))))))))
 ·refine AI (AL O (kp [4] O) (Ac (λt u g i=>?_)))
  cases E
  exact Dm g i O O (B9.refl S h) ⟨O,(iq (n:=0) O),hs⟩
 refine AT (AD (AI (AA O (AA O (Bh O (AN (kp [13,0,1] O) (AX O E (λK E=>?_) (λK E=>?_))))))))
 ·refine AI (AL O (kp [4] O) (Ac (λt u g i=>?_)))
  cases E
  exact Dm g i O O (B9.refl S h) ⟨O,(iq (n:=1099511627777) O),hs⟩
 refine AT (AD (Bl (.inl O) hs (AA O (HI O OA K5 O ?_))))
 obtain⟨z,A,E⟩:=bd E
 refine H8 (v:= .tuple #[.int .u64 z.1,.int .u64 z.2]) (Ψ:=IntKind.has .u64 z.1∧IntKind.has .u64 z.2) O O O ZX O (λh' o=>(KG (St.all h') (Dz _ _) (show IntKind.has .u64 1099511627776 by first|assumption|exact⟨by decide,by decide⟩) A).mono λ_ _ _ _ p=>⟨p.1,⟨p.2.1,p.2.2.1⟩⟩) λM=>?_
 obtain⟨Q,U⟩:=M
 refine AA O (Bi O (Bi O (AY O (AY O (BJ (kp [6,5,1] O) λh7 C V=>AD (Bl (.inl O) C (AA O (AA O (AA O (HI O OA K5 O ?_))))))))))
 obtain⟨d,x,E⟩:=bd E
 refine H8 (v:= .tuple #[.int .u64 d.1,.int .u64 d.2]) (Ψ:=IntKind.has .u64 d.1∧IntKind.has .u64 d.2) O O O ZW O (λh' o=>(KH (St.all h') Q U (Dz _ _) x).mono λ_ _ _ _ p=>⟨p.1,⟨p.2.1,p.2.2.1⟩⟩) λD=>?_
 obtain⟨F,W⟩:=D
 refine AA O (Bi O (Bi O (AY O (AY O (BJ (kp [8,7] O) λm k G=>AD (AI (AA O (Bc O (AN (kp [29,7] O) (Gs (λa w=>∃(j:Int),IV B S m (34,[]) a w [(7,.int .u64 j)] (L) λ_ _=>IntKind.has .u64 j∧If N j=some r) ?_ ?_))))))))))
 ·refine AX O E (λH E=>?_) (λH E=>?_)
  ·refine BY (.inl O) (AA O (I3 O O O (AL O (kp [7] O) (WF.nil (λt u g i=>?_)))))
   exact⟨(IntKind.wrap .u64 (d.1+1)),_,_,g.sub (kp [7] O),i,k,(B9.refl S m),(Dz _ _),E⟩
  refine AT (WF.nil (λt u g i=>?_))
  exact⟨d.1,_,_,g.sub (kp [7] O),i,k,(B9.refl S m),F,E⟩
 rintro t u ⟨j,X,Y,g,i,y,I,Z,E⟩
 refine Ad ?_ g i
 clear g i u t
 rw[If] at E
 refine AI (AA O (HI O K5 OA O (AL O (kp [4] O) (Ac (λt u g i=>?_)))))
 cases E
 exact Dm g i O O (V.trans (G.trans I)) ⟨O,(BI _),y⟩
theorem NM (hs:St S L h) {c:Value}{b:(List (List BO))}(d:Sl S h (AM.sl Bq) c b) {r:Int}(E:Hm N b=some r):
 CG Tryz.prog 80 #[c] S h (λv S' h'=>v=vI r∧AG r∧St S' (L) h'):=by
 refine BB (l:=[c]) 48 Tryz.func80 O Tryz.ntmps80 O λB=>?_
 rw[Hm] at E
 refine AI (AL O (kp [0] O) (AI (AL O (kp [3,0] O) (AD (AI (AA O (Al O d WD O λb1=>AA O (AN (kp [9,8,7,3] O) (Am (λa w=>∃(W:Int),IV B S h (48,[]) a w [(3,vI W)] (L) λ_ _=>AG W∧DN N W=some r) ?_ ?_)))))))))
 ·refine A3 (λX=>λa w=>∃(D:Int) (k:Int),IV B S h (48,[]) a w [(8,vI (↑b.length:Int)),(7,c),(3,vI D),(9,vI k)] (L) λ_ _=>AG D∧AG k∧CT N b (DN N) X D k=some r) N ?_ ?_ ?_
  ·intro m p g i
   exact⟨0,0,_,_,g.sub (kp [8,7,3,9] O),i,hs,(B9.refl S h),(iq (n:=0) O),(iq (n:=0) O),E⟩
  ·rintro m p ⟨_,_,_,_,_,_,_,_,_,_,E⟩
   rw[CT] at E;cases E
  rintro X m p ⟨D,k,z,A,g,i,t,C,r9,av,E⟩
  refine Ad ?_ g i
  clear g i p m
  rw[CT] at E
  refine AI (Aq O (AN (kp [10,8,7,3,9] O) (AD (AX O E (λY E=>?_) (λY E=>?_)))))
  ·refine AT (AD (Am (λa w=>∃(u:Int),IV B z A (48,[]) a w [(8,vI (↑b.length:Int)),(7,c),(9,vI k),(3,vI u)] (L) λ_ _=>AG u∧ET N k (CT N b (DN N) X) u=some r) ?_ ?_))
   ·refine AI ?_
    obtain⟨Z,F,E⟩:=bd E
    refine BD O O (d.mono' C) WD F O λaw ab=>An A6 t.1 O ab IL O λac x=>AL O (kp [5,8,7,3,9] O) (AI (AL O (kp [6,5,8,7,3,9] O) (A5 (A3 (λn3=>λa w=>∃(s:Int) (y:Int),IV B z A (48,[]) a w [(5,ac),(8,vI (↑b.length:Int)),(7,c),(9,vI k),(3,vI s),(6,vI y)] (L) λ_ _=>AG s∧AG y∧Dn N Z (ET N k (CT N b (DN N) X)) n3 s y=some r) N ?_ ?_ ?_))))
    ·intro m p g i
     exact⟨D,1,_,_,g.sub (kp [5,8,7,9,3,6] O),i,t,(B9.refl z A),r9,(iq (n:=1) O),E⟩
    ·rintro m p ⟨_,_,_,_,_,_,_,_,_,_,E⟩
     rw[Dn] at E;cases E
    rintro n3 m p ⟨s,y,ax,ay,g,i,j,q,G,az,E⟩
    refine Ad ?_ g i
    clear g i p m
    rw[Dn] at E
    refine AD (AI (AA O (AA O (Al O (x.mono' q) H3 O λa0=>Aq O (AN (kp [16,5,8,7,9,3,6] O) (AX O E (λad E=>?_) (λad E=>?_)))))))
    ·refine AT (AD (A5 (Bl (.inr ⟨mo,by kernel_rfl⟩) j (AA O (AA O (AA O ?_))))))
     obtain⟨a1,H,E⟩:=bd E
     refine BD O O (x.mono' q) H3 H O λa2 ae=>Ai O ae Kp IH O λa3 af=>Ah Bb j.1 O af Ag O λa4=>AA O (AA O (Cg O ?_))
     obtain⟨a5,I,E⟩:=bd E
     refine BD O O (x.mono' q) H3 I O λa6 ag=>Ai O ag Kp IH O λa7 ah=>Ah Bb j.1 O ah Ag O λa8=>Cg O (AA O (AA O ?_))
     obtain⟨a9,J,E⟩:=bd E
     refine BD O O (x.mono' q) H3 J O λba ai=>Ai O ai Kq Iy O λbb aj=>Ah Bb j.1 O aj Ag O λbc=>AA O (AA O (Cg O ?_))
     obtain⟨be,K,E⟩:=bd E
     refine BD O O (x.mono' q) H3 K O λbf ak=>Ai O ak Kq Iy O λbg al=>Ah Bb j.1 O al Ag O λbh=>Cg O ?_
     obtain⟨am,M,E⟩:=bd E
     refine CE O O O Qs O (λh' o=>G6 (St.all h') (BI _) (BI _) M) λan=>?_
     have ao:=an
     refine OM O O O (AY O (BJ (kp [3,5,8,7,9,6] O) λbi Q ap=>BK (BY (.inl O) (AA O (Af O (AL O (kp [6,3,5,8,7,9] O) (WF.nil (λm p g i=>?_))))))))
     exact⟨(max s am),(BC (y+1)),_,_,g.sub (kp [5,8,7,9,3,6] O),i,Q,(q.trans ap),(OH G ao),(BI _),E⟩
    refine Ko O (WF.nil (λm p g i=>?_))
    exact⟨s,_,_,g.sub (kp [8,7,9,3] O),i,j,q,G,E⟩
   rintro m p ⟨u,bj,bk,g,i,U,aq,ar,E⟩
   refine Ad ?_ g i
   clear g i p m
   rw[ET] at E
   refine BY (.inl O) (Af O (AA O (AN (kp [9,8,7,3] O) (WF.nil (λm p g i=>?_)))))
   exact⟨u,(BC (k+1)),_,_,g.sub (kp [8,7,3,9] O),i,U,(C.trans aq),ar,(BI _),E⟩
  refine A9 O (λm p g i=>?_)
  exact⟨D,_,_,g.sub (kp [3] O),i,t,C,r9,E⟩
 rintro m p ⟨W,bl,bm,g,i,V,au,r3,E⟩
 refine Ad ?_ g i
 clear g i p m
 rw[DN] at E
 refine AI (AA O (AL O (kp [2] O) (Ac (λm p g i=>?_))))
 cases E
 exact Dm g i O O au ⟨O,r3,V⟩
theorem L7 (hs:St S L h) {Y:Value}{s:AW}(a4:Rd S h B3 Y s) {r:Bool}(E:GR N s=some r):
 CG Tryz.prog 52 #[Y] S h (λv S' h'=>v= .bool r∧St S' (L) h'):=by
 refine BB (l:=[Y]) 128 Tryz.func52 O Tryz.ntmps52 O λB=>?_
 rw[GR] at E
 refine WF.sl (B5 O a4 (λe=>by cases e) O hs λq1 S2 h3 du e5 k6=>AH 1 (AY O (AF (AZ (kp [1] O) (WF.sl (AH 3 (Ai O k6 BU DI O λq7 k8=>An A6 du.1 O k8 GO O λv9 f9=>Al O f9 qZ O λju=>AF ?_)))))))
 obtain⟨dv,E⟩:=MR E
 refine I9 (r:=AM.int) (zx:=0) FJ O ⟨O,by unfold AG;omega⟩ O O dv O O du λt bt a9 bu=>AH 1 (AY O (AF (AZ (kp [3,1] O) (AD (AI ?_)))))
 have dw:=k6.mono bu
 refine Ai O dw BU DI O λjv ga=>An A6 a9.1 O ga GO O λgb dx=>Al O dx qZ O λjw=>AA O (AN (kp [17,16,15,3,1] O) (Am (λa w=>∃(a5:List Int),IV B S2 bt (128,[]) a w [(3,t),(1,q1)] (OS AM.int 3 t a5::L) λ_ _=>C6 N s a5=some r) ?_ ?_))
 ·refine A3 (λn1=>λa w=>∃(ab:Int) (ak:List Int),IV B S2 bt (128,[]) a w [(16,vI (↑s.Places.length:Int)),(15,gb),(3,t),(1,q1),(17,vI ab)] (OS AM.int 3 t ak::L) λ_ _=>AG ab∧C4 N s (C6 N s) n1 ab ak=some r) N ?_ ?_ ?_
  ·intro y z g j
   exact⟨0,(List.replicate ((↑s.Places.length:Int):Int).toNat (0:Int)),_,_,g.sub (kp [16,15,3,1,17] O),j,a9,(B9.refl S2 bt),(iq (n:=0) O),E⟩
  ·rintro y z ⟨_,_,_,_,_,_,_,_,_,E⟩
   rw[C4] at E;cases E
  rintro n1 y z ⟨ab,ak,jx,jy,g,j,an,bv,jz,E⟩
  refine Ad ?_ g j
  clear g j z y
  rw[C4] at E
  refine AI (Aq O (AN (kp [18,16,15,3,1,17] O) (AD (AX O E (λgc E=>?_) (λgc E=>?_)))))
  ·refine AT (AD (A5 (WF.sl (AH 3 (AA O ?_)))))
   obtain⟨C,dy,E⟩:=bd E
   refine BD O O (dx.mono' bv) qZ dy O λj0 gd=>B4 A6 an.1 O gd Jt (λe=>by cases e) O λj1 ge=>AF (Cs OR O an λj2 j3 dz d0=>AH 1 (AY O (AF ?_)))
   obtain⟨d1,d2,d3,rfl,j4,j5,j6,j7,gf,gg,gh,gi,j8,j9,ka,gj⟩:=Bw.ex (ge.mono d0)
   refine HJ (vs:=[.string C.Name,vI C.Kind,vI C.Office,vI C.Cap,d1,d2,vI C.Num,vI C.Den,vI C.Down,vI C.Delay,vI C.Floor,d3]) (cs':=[.string C.Name,vI C.Kind,vI C.Office,vI C.Cap,d1,d2,vI C.Num,vI C.Den,vI C.Down,vI C.Delay,vI C.Floor,d3]) O O O (AE O (AE O (AE O (AE O (AE gf.one (AE gg.one (AE O (AE O (AE O (AE O (AE O (AE gj.one EA)))))))))))) Jt O dz .head O O λkb ao gl=>AZ (kp [4,5,16,15,3,1,17] O) (EQ (AH 6 (AA O (AA O (AC Rh O (AS A6 ao O mh O Ag O (AC K1 O (AS A6 ao O mh O Ag O (AF ?_)))))))))
   obtain⟨d4,d5,E⟩:=bd E
   refine BZ O O O Qs O ao (G6 (St.all _) gh gi d5) λkc kd ke ba gm kf p=>?_
   obtain⟨rfl,gn,gv⟩:=p
   refine AH 1 ?_
   obtain⟨kg,d6,E⟩:=bd E
   refine A4 ba (mt mh) O O BG d6 O λkh d7=>AF ?_
   obtain⟨gp,d8,E⟩:=bd E
   refine En (r:=AM.int) (l:=ak) (i:=ab) (x:=gp) O O (⟨_,O,O,gn⟩:Rd _ _ AM.int _ d4) d7 d8 Lq.id Ag (λ_=>rfl) ba (.tail .head) λki d9 gq=>AZ (kp [16,15,3,1,17] O) (BK (BY (.inl O) (Af O (AA O (AN (kp [17,16,15,3,1] O) (WF.nil (λy z g j=>?_)))))))
   have ea:=d9.sel [1] 1 O
   exact⟨(BC (ab+1)),(upd ak ab d4),_,_,g.sub (kp [16,15,3,1,17] O),j,ea,(bv.trans (d0.trans (gl.trans (gm.trans gq)))),(BI _),E⟩
  refine A9 O (λy z g j=>?_)
  exact⟨ak,_,_,g.sub (kp [3,1] O),j,an,bv,E⟩
 rintro y z ⟨a5,bw,bx,g,j,bb,bz,E⟩
 refine Ad ?_ g j
 clear g j z y
 rw[C6] at E
 refine AD (AI (Ai O (dw.mono bz) Eo HA O λkj gr=>An A6 bb.1 O gr Ju O λap eb=>Al O eb H4 O λkk=>AA O (AN (kp [34,33,32,3] O) (Am (λa w=>∃(am:List Int),IV B bw bx (128,[]) a w [(3,t)] (OS AM.int 3 t am::L) λ_ _=>CB N am=some r) ?_ ?_))))
 ·refine A3 (λn3=>λa w=>∃(M:Int) (D:List Int),IV B bw bx (128,[]) a w [(33,vI (↑s.Links.length:Int)),(32,ap),(3,t),(34,vI M)] (OS AM.int 3 t D::L) λ_ _=>AG M∧BM N s (CB N) n3 M D=some r) N ?_ ?_ ?_
  ·intro y z g j
   exact⟨0,a5,_,_,g.sub (kp [33,32,3,34] O),j,bb,(B9.refl bw bx),(iq (n:=0) O),E⟩
  ·rintro y z ⟨_,_,_,_,_,_,_,_,_,E⟩
   rw[BM] at E;cases E
  rintro n3 y z ⟨M,D,u,ec,g,j,ac,aq,kl,E⟩
  refine Ad ?_ g j
  clear g j z y
  rw[BM] at E
  refine AI (Aq O (AN (kp [35,33,32,3,34] O) (AD (AX O E (λed E=>?_) (λed E=>?_)))))
  ·refine AT (AD (Am (λa w=>∃(ae:List Int),IV B u ec (128,[]) a w [(33,vI (↑s.Links.length:Int)),(32,ap),(3,t),(34,vI M)] (OS AM.int 3 t ae::L) λ_ _=>B1 N M (BM N s (CB N) n3) ae=some r) ?_ ?_))
   ·refine WF.sl (AH 2 ?_)
    obtain⟨c,b0,E⟩:=bd E
    refine BD O O (eb.mono' aq) H4 b0 O λgw ee=>B4 A6 ac.1 O ee HV (λe=>by cases e) O λgx ef=>AF (Cs OQ O ac λF gy b1 U=>?_)
    obtain⟨af,ag,ah,rfl,gz,g0,eg,g1,bc,be,bf,g2,g3,g4,g5,bg,bh,g6,g7,bi,bj,g8⟩:=Bu.ex (ef.mono U)
    refine HJ (vs:=[.string c.Name,vI c.Kind,vI c.From,vI c.To,af,ag,ah,vI c.Positions,vI c.Speed,vI c.Leak,vI c.Crest,vI c.Num,vI c.Den,vI c.Prime,vI c.Break,vI c.BackNum,vI c.BackDen,vI c.Delay]) (cs':=[.string c.Name,vI c.Kind,vI c.From,vI c.To,af,ag,ah,vI c.Positions,vI c.Speed,vI c.Leak,vI c.Crest,vI c.Num,vI c.Den,vI c.Prime,vI c.Break,vI c.BackNum,vI c.BackDen,vI c.Delay]) O O O (AE O (AE O (AE O (AE O (AE bc.one (AE be.one (AE bf.one (AE O (AE O (AE O (AE O (AE O (AE O (AE O (AE O (AE O (AE O (AE O EA)))))))))))))))))) HV O b1 .head O O λH d I=>AZ (kp [7,33,32,3,34] O) (AI (AC GD O (AS A6 d O mh O Ag O (AN (kp [39,7,33,32,3,34] O) (A5 (AI (BH O (AL O (kp [40,39,7,33,32,3,34] O) (AX O E (λeh E=>?_) (λeh E=>?_))))))))))
    ·refine AD ?_
     obtain⟨g9,b2,E⟩:=bd E
     obtain⟨J,b3,E⟩:=bd E
     obtain⟨K,b4,E⟩:=bd E
     obtain⟨ha,b5,E⟩:=bd E
     refine ND (m:=[(7,vP F 0),(33,vI (↑s.Links.length:Int)),(32,ap),(3,t),(34,vI M)]) 17 (λi v hh=>match i with|0=>v=t|1=>v=vP F 2|2=>v=vI c.From∧AG c.From|3=>EP t (c.From.toNat*(AM.int).sz+0) v|4=>v=vI J∧AG J|5=>v=vP F 4|6=>Sl u hh Bq v c.Rate|7=>v=vP F 5|8=>v=vP F 5|9=>Sl u hh Bq v c.Band.Lo|10=>v=vP F 5|11=>v=vP F 6|12=>Sl u hh Bq v c.Band.Hi|13=>Sl (SN u H hh) hh (AM.sl Bq) v ([c.Rate,c.Band.Lo,c.Band.Hi]:List (List BO))∧∃ad,v= .slice (some ad) 3 3|14=>v=vI K∧AG K|15=>v=vI (BC (J+K))∧AG (BC (J+K))|16=>EP t (c.From.toNat*(AM.int).sz+0) v|_=>False) [[],[],[(1,43)],[(0,42),(2,44)],[(3,45)],[],[(5,47)],[],[(7,49)],[(8,50)],[],[(10,52)],[(11,53)],[(6,48),(9,51),(12,54)],[(13,55)],[(4,46),(14,56)],[(0,42),(2,44)]] [(15,57),(16,58)] mo (by kernel_rfl) [7,33,32,3,34] O (by kernel_rfl) (by kernel_rfl) (by kernel_rfl) (kp [7,33,32,3,34] O) (λi v h1 h2 o1 o2 hr=>?_) ?_ ?_
     ·match i,hr with
       |0,hr|1,hr|2,hr|3,hr|4,hr|5,hr|7,hr|8,hr|10,hr|11,hr|14,hr|15,hr|16,hr=>exact hr
       |6,hr|9,hr|12,hr=>exact Sl.mono' hr (o2.ext λb hb=>Nat.lt_of_lt_of_le (d.1 b hb) o1.siz)
       |13,hr=>exact⟨Sl.mono' hr.1 (SN.mono d.1 o1 o2),hr.2⟩
       |_+17,hr=>exact hr.elim
     ·refine A0.cons O (λ_ _ _=>AH 1 (AA O (AO O))) (A0.cons O (λ_ _ _=>AH 1 (AC JG O (AO O))) (A0.cons O (λ_ _ o _ ei=>by cases ei;exact AH 1 (AS A6 (o.st d) O mh O Ag O (AO ⟨O,eg⟩))) (A0.cons O (λ_ _ o=>by intro hc ej hd ek;cases ej;obtain ⟨rfl,he⟩:=ek;exact AH 1 (A4 (o.st d) (mt mh) O O BG b2 O λhg b6=>AO b6)) ?_)))
      refine A0.cons O ?_ ?_
      ·intro mq hh o
       intro hi el
       have hsN:=o.st d
       refine AH 1 ?_
       have em:=hsN.epAt (mt mh) b3 FM.id el
       exact Ah A6 (λ_ x=>x) O em Ag O λen=>AO ⟨O,en⟩
      refine A0.cons O (λ_ _ _=>AH 1 (AC Mr O (AO O))) (A0.cons O (λ_ _ o _ eo=>by cases eo;exact AH 1 (AS A6 (o.st d) O mh O IL O (AO (bc.mono' (I.trans (o.ext d.1)))))) (A0.cons O (λ_ _ _=>AH 1 (AC Ky O (AO O))) (A0.cons O (λ_ _ _ _ ep=>by cases ep;exact AH 1 (AC PJ O (AO O))) (A0.cons O (λ_ _ o _ eq=>by cases eq;exact AH 1 (AS A6 (o.st d) O mh O IL O (AO (be.mono' (I.trans (o.ext d.1)))))) (A0.cons O (λ_ _ _=>AH 1 (AC Ky O (AO O))) (A0.cons O (λ_ _ _ _ er=>by cases er;exact AH 1 (AC PI O (AO O))) (A0.cons O (λ_ _ o _ es=>by cases es;exact AH 1 (AS A6 (o.st d) O mh O IL O (AO (bf.mono' (I.trans (o.ext d.1)))))) ?_)))))))
      refine A0.cons O ?_ ?_
      ·intro mq hh o
       intro et V eu W ev X
       have hsN:=SN.st d o
       have V:=Sl.mono' (S':=(SN u H hh)) V ⟨λb hb=> .inl hb,λ_ _=>rfl,Nat.le_refl _⟩
       have V:Sl _ _ Bq et c.Rate:=V
       have W:=Sl.mono' (S':=(SN u H hh)) W ⟨λb hb=> .inl hb,λ_ _=>rfl,Nat.le_refl _⟩
       have W:Sl _ _ Bq eu c.Band.Lo:=W
       have X:=Sl.mono' (S':=(SN u H hh)) X ⟨λb hb=> .inl hb,λ_ _=>rfl,Nat.le_refl _⟩
       have X:Sl _ _ Bq ev c.Band.Hi:=X
       have hsF:=hsN.fz
       obtain⟨b7,a6,rfl,hj⟩:=(V).len
       obtain⟨b8,a7,rfl,hk⟩:=(W).len
       obtain⟨b9,a8,rfl,hl⟩:=(X).len
       refine Dw (cs:=[(.slice b7 c.Rate.length a6),(.slice b8 c.Band.Lo.length a7),(.slice b9 c.Band.Hi.length a8)]) aQ O O O O O O O hsF λhm hn ca ai=>?_
       have ew:=X.mono' ai
       have ey:=W.mono' ai
       have ez:=V.mono' ai
       have cb:=ca.bxos (r:=(AM.sl Bq)) (l:=([c.Rate,c.Band.Lo,c.Band.Hi]:List (List BO))) .head ⟨_,_,O,⟨_,O,ez⟩,⟨_,_,O,⟨_,O,ey⟩,⟨_,_,O,⟨_,O,ew⟩,O⟩⟩⟩ (by simp [maxLen])
       obtain⟨ho,cc,e0,e1⟩:=cb.pubs .head
       have ar:=Fz.done o (ai.trans e0) cc
       exact Cv ar.1 ⟨Sl.mono' e1 ar.2,_,O⟩
      refine A0.cons O ?_ ?_
      ·intro mq hh o
       intro hp au
       have hsN:=SN.st d o
       obtain⟨au,gs,rfl⟩:=au
       refine BZ O O O fM O hsN (NM (St.all _) (au.mono (λb hb=>hsN.1 b hb) (λ_ _=>rfl)) b4) λhq ht hu gt hv bk p=>?_
       obtain⟨rfl,e2,gu⟩:=p
       exact Cv ⟨bk.siz,λb hb=>bk.same b hb⟩ ⟨O,e2⟩
      exact A0.cons O (λ_ _ _=>by intro hx e3 hy e4;obtain ⟨rfl,hz⟩:=e3;obtain ⟨rfl,h0⟩:=e4;exact AH 1 (Af O (AO ⟨O,(BI _)⟩))) (A0.cons O (λ_ _ o=>by intro h4 e6 h5 e7;cases e6;obtain ⟨rfl,h6⟩:=e7;exact AH 1 (A4 (o.st d) (mt mh) O O BG b5 O λh7 cd=>AO cd)) trivial)
     intro h8 av h9 e8 ia e9
     have ce:=SN.st d av
     obtain⟨rfl,fb⟩:=e8
     obtain⟨fc,cf,E⟩:=bd E
     refine En (r:=AM.int) (l:=D) (i:=c.From) (x:=fc) O O (⟨_,O,O,fb⟩:Rd _ _ AM.int _ (BC (J+K))) e9 cf Lq.id Ag (λ_=>rfl) ce (.tail .head) λib A bl=>AZ (kp [7,33,32,3,34] O) (AI (AC Hs O (AS A6 A O mh O Ag O (Bc O (AN (kp [61,7,33,32,3,34] O) (AX O E (λfd E=>?_) (λfd E=>?_)))))))
     ·refine LB 12 mo (by kernel_rfl) O A (AA O (AC Hs O (AS Bb A O mh O Ag O ?_)))
      obtain⟨ic,cg,E⟩:=bd E
      refine A4 A (mt mh) O O BG cg O λie ch=>?_
      obtain⟨bm,ci,E⟩:=bd E
      have fe:=A.epAt (mt mh) ci FM.id ch
      refine Ah Bb (λ_ x=>x) O fe Ag O λig=>AC Kj O (AS Bb A O mh O Ag O (AC Jx O (AS Bb A O mh O Ag O ?_)))
      obtain⟨bn,cj,E⟩:=bd E
      refine CE O O O Qs O (λh' o=>G6 (St.all h') bi bj cj) λff=>?_
      have ih:=ff
      refine Af O ?_
      obtain⟨ii,ck,E⟩:=bd E
      refine A4 A (mt mh) O O BG ck O λij cl=>Jp λik cm fg=>?_
      obtain⟨fh,cn,E⟩:=bd E
      refine En (r:=AM.int) (l:=(upd D c.From (BC (J+K)))) (i:=c.To) (x:=fh) O O (⟨_,O,O,(BI _)⟩:Rd _ _ AM.int _ (BC (bm+bn))) cl cn Lq.id Ag (λ_=>rfl) cm (.tail .head) λil co fi=>AZ (kp [33,32,3,34] O) (BK (WF.nil (λy z g j=>?_)))
      have cp:=co.sel [1] 1 O
      exact⟨(upd (upd D c.From (BC (J+K))) c.To (BC (bm+bn))),_,_,g.sub (kp [33,32,3,34] O),j,cp,(U.trans (I.trans ((SN.ext d.1 av).trans (bl.trans (fg.trans fi))))),E⟩
     refine AT (BK (WF.nil (λy z g j=>?_)))
     have cq:=A.sel [1] 1 O
     exact⟨(upd D c.From (BC (J+K))),_,_,g.sub (kp [33,32,3,34] O),j,cq,(U.trans (I.trans ((SN.ext d.1 av).trans bl))),E⟩
    refine AD (AI (BH O (AL O (kp [74,39,7,33,32,3,34] O) (Gs (λa w=>∃(aw:Bool),IV B u H (128,[]) a w [(39,vI c.Kind),(7,vP F 0),(33,vI (↑s.Links.length:Int)),(32,ap),(3,t),(34,vI M),(74,.bool aw)] (Bx F 67 [.string c.Name,vI c.Kind,vI c.From,vI c.To,af,ag,ah,vI c.Positions,vI c.Speed,vI c.Leak,vI c.Crest,vI c.Num,vI c.Den,vI c.Prime,vI c.Break,vI c.BackNum,vI c.BackDen,vI c.Delay]::OS AM.int 3 t D::L) λ_ _=>C5 N D c (B1 N M (BM N s (CB N) n3)) aw=some r) ?_ ?_))))
    ·refine AX O E (λfj E=>?_) (λfj E=>?_)
     ·refine AT (WF.nil (λy z g j=>?_))
      exact⟨(decide (c.Kind=1)),_,_,g.sub (kp [39,7,33,32,3,34,74] O),j,d,(B9.refl u H),E⟩
     refine AI (BH O (AL O (kp [74,39,7,33,32,3,34] O) (Gs (λa w=>∃(aj:Bool),IV B u H (128,[]) a w [(39,vI c.Kind),(7,vP F 0),(33,vI (↑s.Links.length:Int)),(32,ap),(3,t),(34,vI M),(74,.bool aj)] (Bx F 67 [.string c.Name,vI c.Kind,vI c.From,vI c.To,af,ag,ah,vI c.Positions,vI c.Speed,vI c.Leak,vI c.Crest,vI c.Num,vI c.Den,vI c.Prime,vI c.Break,vI c.BackNum,vI c.BackDen,vI c.Delay]::OS AM.int 3 t D::L) λ_ _=>GW N (C5 N D c (B1 N M (BM N s (CB N) n3))) aj=some r) ?_ ?_)))
     ·refine AX O E (λfk E=>?_) (λfk E=>?_)
      ·refine AT (WF.nil (λy z g j=>?_))
       exact⟨(decide (c.Kind=5)),_,_,g.sub (kp [39,7,33,32,3,34,74] O),j,d,(B9.refl u H),E⟩
      refine BY (.inl O) (BH O (AL O (kp [74,39,7,33,32,3,34] O) (WF.nil (λy z g j=>?_))))
      exact⟨(decide (c.Kind=3)),_,_,g.sub (kp [39,7,33,32,3,34,74] O),j,d,(B9.refl u H),E⟩
     rintro y z ⟨aj,im,io,g,j,cr,fl,E⟩
     refine Ad ?_ g j
     clear g j z y
     rw[GW] at E
     refine WF.nil (λy z g j=>?_)
     exact⟨aj,_,_,g.sub (kp [39,7,33,32,3,34,74] O),j,cr,fl,E⟩
    rintro y z ⟨aw,ip,ir,g,j,k,ax,E⟩
    refine Ad ?_ g j
    clear g j z y
    rw[C5] at E
    refine AX O E (λfm E=>?_) (λfm E=>?_)
    ·refine LB 12 mo (by kernel_rfl) O k (AA O (AC JG O (AS Bb k O mh O Ag O ?_)))
     obtain⟨it,ct,E⟩:=bd E
     refine A4 k (mt mh) O O BG ct O λiu cu=>?_
     obtain⟨bo,cv,E⟩:=bd E
     have fn:=k.epAt (mt mh) cv FM.id cu
     refine Ah Bb (λ_ x=>x) O fn Ag O λiv=>AC IP O (AS Bb k O mh O Ag O (AC JH O (AS Bb k O mh O Ag O ?_)))
     obtain⟨bp,cw,E⟩:=bd E
     refine CE O O O Qs O (λh' o=>G6 (St.all h') bg bh cw) λfo=>?_
     have iw:=fo
     refine Af O ?_
     obtain⟨iy,cx,E⟩:=bd E
     refine A4 k (mt mh) O O BG cx O λiz cy=>Jp λi0 cz fp=>?_
     obtain⟨fq,c0,E⟩:=bd E
     refine En (r:=AM.int) (l:=D) (i:=c.From) (x:=fq) O O (⟨_,O,O,(BI _)⟩:Rd _ _ AM.int _ (BC (bo+bp))) cy c0 Lq.id Ag (λ_=>rfl) cz (.tail .head) λi1 c1 fr=>AZ (kp [33,32,3,34] O) (BK (WF.nil (λy z g j=>?_)))
     have c2:=c1.sel [1] 1 O
     exact⟨(upd D c.From (BC (bo+bp))),_,_,g.sub (kp [33,32,3,34] O),j,c2,(U.trans (I.trans (ax.trans (fp.trans fr)))),E⟩
    refine AI (BH O (AL O (kp [90,7,33,32,3,34] O) (AX O E (λfs E=>?_) (λfs E=>?_))))
    ·refine AD (LB 13 mo (by kernel_rfl) O k (AA O (AC JG O (AS Bb k O mh O Ag O ?_))))
     obtain⟨i2,c3,E⟩:=bd E
     refine A4 k (mt mh) O O BG c3 O λi3 c4=>?_
     obtain⟨ay,c5,E⟩:=bd E
     have ft:=k.epAt (mt mh) c5 FM.id c4
     refine Ah Bb (λ_ x=>x) O ft Ag O λi4=>AC IP O (AS Bb k O mh O Ag O (AC JH O (AS Bb k O mh O Ag O ?_)))
     obtain⟨az,c6,E⟩:=bd E
     refine CE O O O Qs O (λh' o=>G6 (St.all h') bg bh c6) λfu=>?_
     have i5:=fu
     refine Uu O O O (Af O ?_)
     obtain⟨i6,c7,E⟩:=bd E
     refine A4 k (mt mh) O O BG c7 O λi7 c8=>Jp λi8 c9 fv=>?_
     obtain⟨fw,da,E⟩:=bd E
     refine En (r:=AM.int) (l:=D) (i:=c.From) (x:=fw) O O (⟨_,O,O,(BI _)⟩:Rd _ _ AM.int _ (BC (ay+(BC (2*az))))) c8 da Lq.id Ag (λ_=>rfl) c9 (.tail .head) λi9 G fx=>AZ (kp [7,33,32,3,34] O) (LB 13 mo (by kernel_rfl) O G (AA O (AC Hs O (AS Bb G O mh O Ag O ?_))))
     obtain⟨ja,db,E⟩:=bd E
     refine A4 G (mt mh) O O BG db O λjb dc=>?_
     obtain⟨bq,dd,E⟩:=bd E
     have fy:=G.epAt (mt mh) dd FM.id dc
     refine Ah Bb (λ_ x=>x) O fy Ag O λjc=>AC Kj O (AS Bb G O mh O Ag O (AC Jx O (AS Bb G O mh O Ag O ?_)))
     obtain⟨br,de,E⟩:=bd E
     refine CE O O O Qs O (λh' o=>G6 (St.all h') bi bj de) λf0=>?_
     have jd:=f0
     refine Uu O O O (Af O ?_)
     obtain⟨je,df,E⟩:=bd E
     refine A4 G (mt mh) O O BG df O λjf dg=>Jp λjg dh f1=>?_
     obtain⟨f2,di,E⟩:=bd E
     refine En (r:=AM.int) (l:=(upd D c.From (BC (ay+(BC (2*az)))))) (i:=c.To) (x:=f2) O O (⟨_,O,O,(BI _)⟩:Rd _ _ AM.int _ (BC (bq+(BC (2*br))))) dg di Lq.id Ag (λ_=>rfl) dh (.tail .head) λjh dj f3=>AZ (kp [33,32,3,34] O) (BK (WF.nil (λy z g j=>?_)))
     have dk:=dj.sel [1] 1 O
     exact⟨(upd (upd D c.From (BC (ay+(BC (2*az))))) c.To (BC (bq+(BC (2*br))))),_,_,g.sub (kp [33,32,3,34] O),j,dk,(U.trans (I.trans (ax.trans (fv.trans (fx.trans (f1.trans f3)))))),E⟩
    refine AT (BK (WF.nil (λy z g j=>?_)))
    have dl:=k.sel [1] 1 O
    exact⟨D,_,_,g.sub (kp [33,32,3,34] O),j,dl,(U.trans (I.trans ax)),E⟩
   rintro y z ⟨ae,ji,jj,g,j,dm,f4,E⟩
   refine Ad ?_ g j
   clear g j z y
   rw[B1] at E
   refine BY (.inl O) (Af O (AA O (AN (kp [34,33,32,3] O) (WF.nil (λy z g j=>?_)))))
   exact⟨(BC (M+1)),ae,_,_,g.sub (kp [33,32,3,34] O),j,dm,(aq.trans f4),(BI _),E⟩
  refine A9 O (λy z g j=>?_)
  exact⟨D,_,_,g.sub (kp [3] O),j,ac,aq,E⟩
 rintro y z ⟨am,a0,a1,g,j,a2,bs,E⟩
 refine Ad ?_ g j
 clear g j z y
 rw[CB] at E
 refine AD (AI (AA O (JO a2 mh O BG O λjk=>AA O (AN (kp [121,120,119] O) (Am (λa w=>IV B a0 a1 (128,[]) a w [] (L) λ_ _=>EK N=some r) ?_ ?_)))))
 ·refine A3 (λn8=>λa w=>∃(Z:Int),IV B a0 a1 (128,[]) a w [(120,vI (↑am.length:Int)),(119,t),(121,vI Z)] (OS AM.int 3 t am::L) λ_ _=>AG Z∧C3 N am (EK N) n8 Z=some r) N ?_ ?_ ?_
  ·intro y z g j
   exact⟨0,_,_,g.sub (kp [120,119,121] O),j,a2,(B9.refl a0 a1),(iq (n:=0) O),E⟩
  ·rintro y z ⟨_,_,_,_,_,_,_,_,E⟩
   rw[C3] at E;cases E
  rintro n8 y z ⟨Z,jl,jm,g,j,Q,a3,jn,E⟩
  refine Ad ?_ g j
  clear g j z y
  rw[C3] at E
  refine AI (Aq O (AN (kp [122,120,119,121] O) (AD (AX O E (λf5 E=>?_) (λf5 E=>?_)))))
  ·refine AT (AD (A5 (AI ?_)))
   obtain⟨jo,dn,E⟩:=bd E
   refine A4 Q mh O O BG dn O λjp dp=>?_
   obtain⟨jq,dq,E⟩:=bd E
   have f6:=Q.epAt mh dq FM.id dp
   refine Ah A6 (λ_ x=>x) O f6 Ag O λjr=>AL O (kp [9,120,119,121] O) (AI (AA O (Bh O (AN (kp [126,120,119,121] O) (AX O E (λf7 E=>?_) (λf7 E=>?_))))))
   ·refine AI (AL O (kp [2] O) (Ac (λy z g j=>?_)))
    have dr:=Q.drop .head
    cases E
    exact Dm g j O O (e5.trans (bu.trans (bz.trans (bs.trans a3)))) ⟨O,dr⟩
   refine AT (BK (BY (.inl O) (Af O (AA O (AN (kp [121,120,119] O) (WF.nil (λy z g j=>?_)))))))
   exact⟨(BC (Z+1)),_,_,g.sub (kp [120,119,121] O),j,Q,a3,(BI _),E⟩
  refine A9 O (λy z g j=>?_)
  have ds:=Q.drop .head
  exact⟨_,_,g.sub Ou,j,ds,a3,E⟩
 rintro y z ⟨js,jt,g,j,dt,f8,E⟩
 refine Ad ?_ g j
 clear g j z y
 rw[EK] at E
 refine AI (AL O (kp [2] O) (Ac (λy z g j=>?_)))
 cases E
 exact Dm g j O O (e5.trans (bu.trans (bz.trans (bs.trans f8)))) ⟨O,dt⟩
end Go.Proofs.YtblcgjadhemlbaaGreat
