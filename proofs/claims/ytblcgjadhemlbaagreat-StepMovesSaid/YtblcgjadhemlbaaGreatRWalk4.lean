import Derived.Test.YtblcgjadhemlbaaGreatRWalk3
namespace Go.Proofs.YtblcgjadhemlbaaGreat
open Go.RowKit
set_option linter.unusedVariables false
set_option linter.unusedSimpArgs false
set_option maxRecDepth 10000
set_option maxHeartbeats 2000000
variable {N:Nat}{S:Nat→Prop}{L:List HP}{h:Aw}
theorem Mg (hs:St S L h) {p:Value}{u:AX}(D:Rd S h B1 p u) {r:Bool}(E:G0 N u=some r):
 CL Tryz.prog 50 #[p] S h (λv S' h'=>v= .bool r∧St S' (L) h'):=by
 refine BG (l:=[p]) 51 Tryz.func50 O Tryz.ntmps50 O λB=>?_
 rw[G0] at E
 refine WF.sl (B4 O D (λe=>by cases e) O hs λq1 S2 h3 ad e5 k6=>AG 1 (AY O (AF (AZ (kp [1] O) (AC (AI (Ae O k6 D1 Gc O λq7 k8=>Ao A9 ad.1 O k8 JR O λv9 ae=>An O ae Hf O λbp=>AA O (AN (kp [8,7,6,1] O) (Am (λa w=>IV B S2 h3 (51,[]) a w [] (L) λ_ _=>Et N=some r) ?_ ?_)))))))))
 ·refine A5 (λn1=>λa w=>∃(z:Int),IV B S2 h3 (51,[]) a w [(7,vI (↑u.Links.length:Int)),(6,v9),(1,q1),(8,vI z)] (L) λ_ _=>AH z∧DO N u (Et N) n1 z=some r) N ?_ ?_ ?_
  ·intro F G s t
   exact⟨0,_,_,s.sub (kp [7,6,1,8] O),t,ad,(CA.refl S2 h3),(iq (n:=0) O),E⟩
  ·rintro F G ⟨_,_,_,_,_,_,_,_,E⟩
   rw[DO] at E;cases E
  rintro n1 F G ⟨z,bq,br,s,t,A,y,bs,E⟩
  refine Ac ?_ s t
  clear s t G F
  rw[DO] at E
  refine AI (Ar O (AN (kp [9,7,6,1,8] O) (AC (AW O E (λbc E=>?_) (λbc E=>?_)))))
  ·refine AQ (AC (BB (WF.sl (AG 2 ?_))))
   obtain⟨b,af,E⟩:=bd E
   refine BE O O (ae.mono' y) Hf af O λbt be=>B8 A9 A.1 O be Hd (λe=>by cases e) O λbu bf=>AF (Cp OY O A λbv bw ag C=>?_)
   obtain⟨H,I,J,rfl,ah,Q,K,U,V,W,X,ai,aj,ak,am,an,ao,ap,aq,ar,au,Y⟩:=Bu.ex (bf.mono C)
   refine G7 (vs:=[.string b.Name,vI b.Kind,vI b.From,vI b.To,H,I,J,vI b.Positions,vI b.Speed,vI b.Leak,vI b.Crest,vI b.Num,vI b.Den,vI b.Prime,vI b.Break,vI b.BackNum,vI b.BackDen,vI b.Delay]) (cs':=[.string b.Name,vI b.Kind,vI b.From,vI b.To,H,I,J,vI b.Positions,vI b.Speed,vI b.Leak,vI b.Crest,vI b.Num,vI b.Den,vI b.Prime,vI b.Break,vI b.BackNum,vI b.BackDen,vI b.Delay]) O O O (AE O (AE O (AE O (AE O (AE V.one (AE W.one (AE X.one (AE O (AE O (AE O (AE O (AE O (AE O (AE O (AE O (AE O (AE O (AE O EH)))))))))))))))))) Hd O ag .head O O λbx c m=>AZ (kp [4,7,6,1,8] O) (AC (Bq (.inl O) c (AD GK O (AS Bd c O mh O Ag O ?_))))
   obtain⟨bg,av,E⟩:=bd E
   refine A6 O O O Hu O (λh' o=>Bs (St.all h') Q (iq (n:=0) O) (iq (n:=5) O) av) (BY O (AA O ?_))
   obtain⟨aw,d,E⟩:=bd E
   refine AV 8 24 (.bool aw) ?_ ?_
   ·cases ax:(!bg)
    ·have d:=F5 ax d
     refine AB O (AD JW O (AB O (AS Bd c O mh O Ag O (AB O (Ae O (k6.mono (y.trans (C.trans m))) BP C1 O λbz bh=>AB O (Ao Bd c.1 O bh F7 O λb0 bi=>AB O (An O bi FA O λbj=>AB O ?_)))))))
     obtain⟨b1,ay,d⟩:=bd d
     refine A6 O O O P2 O (λh' o=>GS (St.all h') K (Jl bj) ay) (AB O (BY O (AJ O ?_)))
     cases d
     exact AU O
    have d:=Fy ax d
    cases d
    exact Aa O O
   refine AA O ?_
   obtain⟨az,g,E⟩:=bd E
   refine AV 8 33 (.bool az) ?_ ?_
   ·cases a0:aw
    ·have g:=F5 a0 g
     refine AB O (B8 Bd c.1 O (k6.mono (y.trans (C.trans m))) G6 (λe=>by cases e) O λb2 bk=>AB O (AD JW O (AB O (AS Bd c O mh O Ag O (AB O (AD Hz O (AB O (AS Bd c O mh O Ag O (AB O ?_)))))))))
     obtain⟨b3,a1,g⟩:=bd g
     refine A6 O O O ZE O (λh' o=>LV (St.all h') (bk.mono (o.all c.1)) K U a1) (AB O (BY O (AJ O ?_)))
     cases g
     exact AU O
    have g:=Fy a0 g
    cases g
    exact Aa O O
   refine AA O ?_
   obtain⟨a2,i,E⟩:=bd E
   refine AV 5 39 (.bool a2) ?_ ?_
   ·cases a3:az
    ·have i:=F5 a3 i
     refine AB O (AD MZ O (AB O (AS Bd c O mh O Ag O (AB O ?_))))
     obtain⟨b4,a4,i⟩:=bd i
     refine A6 O O O Hu O (λh' o=>Bs (St.all h') Y (iq (n:=0) O) (iq (n:=240) O) a4) (AB O (BY O (AJ O ?_)))
     cases i
     exact AU O
    have i:=Fy a3 i
    cases i
    exact Aa O O
   refine AA O ?_
   obtain⟨a5,j,E⟩:=bd E
   refine AV 4 44 (.bool a5) ?_ ?_
   ·cases a6:a2
    ·have j:=F5 a6 j
     refine AB O (Db (vs:=[.string b.Name,vI b.Kind,vI b.From,vI b.To,H,I,J,vI b.Positions,vI b.Speed,vI b.Leak,vI b.Crest,vI b.Num,vI b.Den,vI b.Prime,vI b.Break,vI b.BackNum,vI b.BackDen,vI b.Delay]) Bd c O mh O O Hd O O (AB O ?_))
     obtain⟨b5,a7,j⟩:=bd j
     refine A6 O O O eO O (λh' o=>MI (St.all h') (Bu.mk (x:=b) ah Q K U ((V.mono' m).mono' (o.all c.1)) ((W.mono' m).mono' (o.all c.1)) ((X.mono' m).mono' (o.all c.1)) ai aj ak am an ao ap aq ar au Y) a7) (AB O (BY O (AJ O ?_)))
     cases j
     exact AU O
    have j:=Fy a6 j
    cases j
    exact Aa O O
   refine AA O ?_
   obtain⟨bl,k,E⟩:=bd E
   refine AV 4 49 (.bool bl) ?_ ?_
   ·cases a8:a5
    ·have k:=F5 a8 k
     refine AB O (Db (vs:=[.string b.Name,vI b.Kind,vI b.From,vI b.To,H,I,J,vI b.Positions,vI b.Speed,vI b.Leak,vI b.Crest,vI b.Num,vI b.Den,vI b.Prime,vI b.Break,vI b.BackNum,vI b.BackDen,vI b.Delay]) Bd c O mh O O Hd O O (AB O ?_))
     obtain⟨b6,a9,k⟩:=bd k
     refine A6 O O O eN O (λh' o=>ME (St.all h') (Bu.mk (x:=b) ah Q K U ((V.mono' m).mono' (o.all c.1)) ((W.mono' m).mono' (o.all c.1)) ((X.mono' m).mono' (o.all c.1)) ai aj ak am an ao ap aq ar au Y) a9) (AB O (BY O (AJ O ?_)))
     cases k
     exact AU O
    have k:=Fy a8 k
    cases k
    exact Aa O O
   refine BM (kp [49,7,6,1,8] O) λb7 M ba=>AW O E (λbm E=>?_) (λbm E=>?_)
   ·refine AI (AK O (kp [2] O) (Ad (λF G s t=>?_)))
    have Z:=M.drop .head
    cases E
    exact Dx s t O O (e5.trans (y.trans (C.trans (m.trans ba)))) ⟨O,Z⟩
   refine AQ (BO (BZ (.inl O) (Ai O (AA O (AN (kp [8,7,6,1] O) (WF.nil (λF G s t=>?_)))))))
   have ab:=M.drop .head
   exact⟨(BD (z+1)),_,_,s.sub (kp [7,6,1,8] O),t,ab,(y.trans (C.trans (m.trans ba))),(BK _),E⟩
  refine BC O (λF G s t=>?_)
  exact⟨_,_,s.sub Oy,t,A,y,E⟩
 rintro F G ⟨bn,bo,s,t,ac,bb,E⟩
 refine Ac ?_ s t
 clear s t G F
 rw[Et] at E
 refine AI (AK O (kp [2] O) (Ad (λF G s t=>?_)))
 cases E
 exact Dx s t O O (e5.trans bb) ⟨O,ac⟩
theorem Mh (hs:St S L h) {b:Value}{j:AX}(d:Rd S h B1 b j) {a:Int}(g:AH a) {c:Int}(m:AH c) {r:Bool}(E:It N j a c=some r):
 CL Tryz.prog 78 #[b,vI a,vI c] S h (λv S' h'=>v= .bool r∧St S' (L) h'):=by
 refine BG (l:=[b,vI a,vI c]) 27 Tryz.func78 O Tryz.ntmps78 O λB=>?_
 rw[It] at E
 refine WF.sl (B4 O d (λe=>by cases e) O hs λJ S2 K i w x=>AG 1 (AY O (AF (AZ (kp [3,1,2] O) (AC (AI (AA O (BL O (AN (kp [9,3,1,2] O) (AW O E (λy E=>?_) (λy E=>?_)))))))))))
 ·refine AI (AA O (BL O (AK O (kp [6] O) (Ad (λz A o p=>?_)))))
  cases E
  exact Dx o p O O w ⟨O,i⟩
 refine AQ (AI (Ae O x BP C1 O λM C=>Ao A9 i.1 O C F7 O λD s=>AA O ?_))
 obtain⟨k,n,E⟩:=bd E
 refine BE O O s FA n O λF t=>Ae O t IH Lm O λG u=>Af A9 i.1 O u Ag O λH=>AK O (kp [7,1] O) (AI (AA O (AA O (BL O (AA O (AV 5 26 (.bool ((decide (k.Office=a))||(decide (k.Office=(BD (a+1)))))) ?_ ?_))))))
 ·cases I:(decide (k.Office=a))
  ·exact AB O (AA O (AB O (AA O (AB O (Ai O (AB O (BL O (AJ O (AU O)))))))))
  exact Aa O O
 refine AK O (kp [6] O) (Ad (λz A o p=>?_))
 cases E
 exact Dx o p O O w ⟨O,i⟩
theorem Lu (hs:St S L h) {p:Value}{m:AX}(I:Rd S h B1 p m) {r:Bool}(E:GG N m=some r):
 CL Tryz.prog 51 #[p] S h (λv S' h'=>v= .bool r∧St S' (L) h'):=by
 refine BG (l:=[p]) 60 Tryz.func51 O Tryz.ntmps51 O λB=>?_
 rw[GG] at E
 refine WF.sl (B4 O I (λe=>by cases e) O hs λq1 S2 h3 am e5 k6=>AG 1 (AY O (AF (AZ (kp [1] O) (AC (AI (Ae O k6 BP C1 O λq7 k8=>Ao A9 am.1 O k8 F7 O λv9 an=>An O an FA O λcu=>AA O (AN (kp [11,10,9,1] O) (Am (λa w=>IV B S2 h3 (60,[]) a w [(1,q1)] (L) λ_ _=>Cy N m=some r) ?_ ?_)))))))))
 ·refine A5 (λn1=>λa w=>∃(x:Int),IV B S2 h3 (60,[]) a w [(10,vI (↑m.Places.length:Int)),(9,v9),(1,q1),(11,vI x)] (L) λ_ _=>AH x∧Cx N m (Cy N m) n1 x=some r) N ?_ ?_ ?_
  ·intro s t j k
   exact⟨0,_,_,j.sub (kp [10,9,1,11] O),k,am,(CA.refl S2 h3),(iq (n:=0) O),E⟩
  ·rintro s t ⟨_,_,_,_,_,_,_,_,E⟩
   rw[Cx] at E;cases E
  rintro n1 s t ⟨x,cv,cw,j,k,y,z,cx,E⟩
  refine Ac ?_ j k
  clear j k t s
  rw[Cx] at E
  refine AI (Ar O (AN (kp [12,10,9,1,11] O) (AC (AW O E (λbm E=>?_) (λbm E=>?_)))))
  ·refine AQ (AC (BB (WF.sl (AG 2 ?_))))
   obtain⟨d,ao,E⟩:=bd E
   refine BE O O (an.mono' z) FA ao O λcy bn=>B8 A9 y.1 O bn J4 (λe=>by cases e) O λcz bo=>AF (Cp OZ O y λc0 c1 ap J=>?_)
   obtain⟨aq,ar,au,rfl,c2,c3,bp,c4,bq,br,c5,c6,bs,c7,c8,bt⟩:=B0.ex (bo.mono J)
   refine G7 (vs:=[.string d.Name,vI d.Kind,vI d.Office,vI d.Cap,aq,ar,vI d.Num,vI d.Den,vI d.Down,vI d.Delay,vI d.Floor,au]) (cs':=[.string d.Name,vI d.Kind,vI d.Office,vI d.Cap,aq,ar,vI d.Num,vI d.Den,vI d.Down,vI d.Delay,vI d.Floor,au]) O O O (AE O (AE O (AE O (AE O (AE bq.one (AE br.one (AE O (AE O (AE O (AE O (AE O (AE bt.one EH)))))))))))) J4 O ap .head O O λc9 u ab=>AZ (kp [4,10,9,1,11] O) (AC (Bq (.inl O) u (B8 Bd u.1 O (k6.mono (z.trans (J.trans ab))) G6 (λe=>by cases e) O λda bu=>AD Lm O (AS Bd u O mh O Ag O (AD PO O (AS Bd u O mh O Ag O ?_))))))
   obtain⟨db,av,E⟩:=bd E
   refine A6 O O O ZD O (λh' o=>Mh (St.all h') (bu.mono (o.all u.1)) bp bs av) (BY O (BM (kp [21,10,9,1,11] O) λdc M aw=>AW O E (λbv E=>?_) (λbv E=>?_)))
   ·refine AI (AK O (kp [2] O) (Ad (λs t j k=>?_)))
    have ax:=M.drop .head
    cases E
    exact Dx j k O O (e5.trans (z.trans (J.trans (ab.trans aw)))) ⟨O,ax⟩
   refine AQ (BO (BZ (.inl O) (Ai O (AA O (AN (kp [11,10,9,1] O) (WF.nil (λs t j k=>?_)))))))
   have ay:=M.drop .head
   exact⟨(BD (x+1)),_,_,j.sub (kp [10,9,1,11] O),k,ay,(z.trans (J.trans (ab.trans aw))),(BK _),E⟩
  refine BC O (λs t j k=>?_)
  exact⟨_,_,j.sub (kp [1] O),k,y,z,E⟩
 rintro s t ⟨ac,ad,j,k,Q,ae,E⟩
 refine Ac ?_ j k
 clear j k t s
 rw[Cy] at E
 refine AC (AI ?_)
 have az:=k6.mono ae
 refine Ae O az D1 Gc O λdd bw=>Ao A9 Q.1 O bw JR O λbx a0=>An O a0 Hf O λde=>AA O (AN (kp [26,25,24,1] O) (Am (λa w=>IV B ac ad (60,[]) a w [] (L) λ_ _=>EG N=some r) ?_ ?_))
 ·refine A5 (λn3=>λa w=>∃(A:Int),IV B ac ad (60,[]) a w [(25,vI (↑m.Links.length:Int)),(24,bx),(1,q1),(26,vI A)] (L) λ_ _=>AH A∧Cw N m (EG N) n3 A=some r) N ?_ ?_ ?_
  ·intro s t j k
   exact⟨0,_,_,j.sub (kp [25,24,1,26] O),k,Q,(CA.refl ac ad),(iq (n:=0) O),E⟩
  ·rintro s t ⟨_,_,_,_,_,_,_,_,E⟩
   rw[Cw] at E;cases E
  rintro n3 s t ⟨A,df,dg,j,k,C,D,dh,E⟩
  refine Ac ?_ j k
  clear j k t s
  rw[Cw] at E
  refine AI (Ar O (AN (kp [27,25,24,1,26] O) (AC (AW O E (λbz E=>?_) (λbz E=>?_)))))
  ·refine AQ (AC (BB (WF.sl (AG 2 ?_))))
   obtain⟨b,a1,E⟩:=bd E
   refine BE O O (a0.mono' D) Hf a1 O λdi b0=>B8 A9 C.1 O b0 Hd (λe=>by cases e) O λdj b1=>AF (Cp OY O C λdk dl a2 K=>?_)
   obtain⟨U,V,W,rfl,dm,dn,dp,b2,a3,a4,a5,b3,b4,b5,b6,b7,b8,b9,ca,cb,cc,cd⟩:=Bu.ex (b1.mono K)
   refine G7 (vs:=[.string b.Name,vI b.Kind,vI b.From,vI b.To,U,V,W,vI b.Positions,vI b.Speed,vI b.Leak,vI b.Crest,vI b.Num,vI b.Den,vI b.Prime,vI b.Break,vI b.BackNum,vI b.BackDen,vI b.Delay]) (cs':=[.string b.Name,vI b.Kind,vI b.From,vI b.To,U,V,W,vI b.Positions,vI b.Speed,vI b.Leak,vI b.Crest,vI b.Num,vI b.Den,vI b.Prime,vI b.Break,vI b.BackNum,vI b.BackDen,vI b.Delay]) O O O (AE O (AE O (AE O (AE O (AE a3.one (AE a4.one (AE a5.one (AE O (AE O (AE O (AE O (AE O (AE O (AE O (AE O (AE O (AE O (AE O EH)))))))))))))))))) Hd O a2 .head O O λce c F=>AZ (kp [6,25,24,1,26] O) (AI ?_)
   have G:=az.mono (D.trans (K.trans F))
   refine Ae O G BP C1 O λcf a6=>Ao A9 c.1 O a6 F7 O λcg a7=>AD JW O (AS A9 c O mh O Ag O ?_)
   obtain⟨ch,af,E⟩:=bd E
   refine BE O O a7 FA af O λci a8=>Ae O a8 IH Lm O λcj a9=>Af A9 c.1 O a9 Ag O λba=>AK O (kp [7,6,25,24,1,26] O) (AC (Bq (.inl O) c (B8 Bd c.1 O G G6 (λe=>by cases e) O λck bb=>AA O (AD Hz O (AS Bd c O mh O Ag O ?_)))))
   obtain⟨bc,ag,E⟩:=bd E
   refine A6 O O O ZD O (λh' o=>Mh (St.all h') (bb.mono (o.all c.1)) ba b2 ag) (BY O (AA O ?_))
   obtain⟨be,g,E⟩:=bd E
   refine AV 15 58 (.bool be) ?_ ?_
   ·cases X:(!bc)
    ·have g:=F5 X g
     refine AB O (AD GK O (AB O (AS Bd c O mh O Ag O (AB O (BL O (AB O (AA O ?_)))))))
     obtain⟨bf,i,g⟩:=bd g
     refine AV 10 57 (.bool bf) ?_ ?_
     ·cases Y:(decide (b.Kind=4))
      ·have i:=F5 Y i
       cases i
       exact Aa O O
      have i:=Fy Y i
      refine AB O (Ae O G BP C1 O λcl bg=>AB O (Ao Bd c.1 O bg F7 O λcm bh=>AB O (AD Hz O (AB O (AS Bd c O mh O Ag O (AB O ?_))))))
      obtain⟨cn,ah,i⟩:=bd i
      refine BE O O bh FA ah O λco bi=>AB O (Ae O bi IH Lm O λcp bj=>AB O (Af Bd c.1 O bj Ag O λcq=>AB O (AA O (AB O (Bt O (AB O (AJ O ?_)))))))
      cases i
      exact AU O
     refine AJ O ?_
     cases g
     exact AU O
    have g:=Fy X g
    cases g
    exact Aa O O
   refine BM (kp [58,25,24,1,26] O) λcr H Z=>AW O E (λbk E=>?_) (λbk E=>?_)
   ·refine AI (AK O (kp [2] O) (Ad (λs t j k=>?_)))
    have ai:=H.drop .head
    cases E
    exact Dx j k O O (e5.trans (ae.trans (D.trans (K.trans (F.trans Z))))) ⟨O,ai⟩
   refine AQ (BO (BZ (.inl O) (Ai O (AA O (AN (kp [26,25,24,1] O) (WF.nil (λs t j k=>?_)))))))
   have aj:=H.drop .head
   exact⟨(BD (A+1)),_,_,j.sub (kp [25,24,1,26] O),k,aj,(D.trans (K.trans (F.trans Z))),(BK _),E⟩
  refine BC O (λs t j k=>?_)
  exact⟨_,_,j.sub Oy,k,C,D,E⟩
 rintro s t ⟨cs,ct,j,k,ak,bl,E⟩
 refine Ac ?_ j k
 clear j k t s
 rw[EG] at E
 refine AI (AK O (kp [2] O) (Ad (λs t j k=>?_)))
 cases E
 exact Dx j k O O (e5.trans (ae.trans bl)) ⟨O,ak⟩
theorem HE (hs:St S L h) {b:Int}(q:AH b) {c:Int}(s:AH c) {r:Int}(E:E2 N b c=some r):
 CL Tryz.prog 79 #[vI b,vI c] S h (λv S' h'=>v=vI r∧AH r∧St S' (L) h'):=by
 refine BG (l:=[vI b,vI c]) 34 Tryz.func79 O Tryz.ntmps79 O λB=>?_
 rw[E2] at E
 refine AI (AK O (kp [0,1] O) (AC (AI (AA O (BL O (AN (kp [10,0,1] O) (AW O E (λJ E=>?_) (λJ E=>?_))))))))
 ·refine AI (AK O (kp [4] O) (Ad (λt u g i=>?_)))
  cases E
  exact Dx g i O O (CA.refl S h) ⟨O,(iq (n:=0) O),hs⟩
 refine AQ (AC (AI (AA O (AA O (Bf O (AN (kp [13,0,1] O) (AW O E (λK E=>?_) (λK E=>?_))))))))
 ·refine AI (AK O (kp [4] O) (Ad (λt u g i=>?_)))
  cases E
  exact Dx g i O O (CA.refl S h) ⟨O,(iq (n:=1099511627777) O),hs⟩
 refine AQ (AC (Bq (.inl O) hs (AA O (HW O OG K8 O ?_))))
 obtain⟨z,A,E⟩:=bd E
 refine IF (v:= .tuple #[.int .u64 z.1,.int .u64 z.2]) (Ψ:=IntKind.has .u64 z.1∧IntKind.has .u64 z.2) O O O Y7 O (λh' o=>(KO (St.all h') (EA _ _) (show IntKind.has .u64 1099511627776 by first|assumption|exact⟨by decide,by decide⟩) A).mono λ_ _ _ _ p=>⟨p.1,⟨p.2.1,p.2.2.1⟩⟩) λM=>?_
 obtain⟨Q,U⟩:=M
 refine AA O (Bo O (Bo O (AY O (AY O (BM (kp [6,5,1] O) λh7 C V=>AC (Bq (.inl O) C (AA O (AA O (AA O (HW O OG K8 O ?_))))))))))
 obtain⟨d,x,E⟩:=bd E
 refine IF (v:= .tuple #[.int .u64 d.1,.int .u64 d.2]) (Ψ:=IntKind.has .u64 d.1∧IntKind.has .u64 d.2) O O O Y6 O (λh' o=>(KP (St.all h') Q U (EA _ _) x).mono λ_ _ _ _ p=>⟨p.1,⟨p.2.1,p.2.2.1⟩⟩) λD=>?_
 obtain⟨F,W⟩:=D
 refine AA O (Bo O (Bo O (AY O (AY O (BM (kp [8,7] O) λm k G=>AC (AI (AA O (Bt O (AN (kp [29,7] O) (Ge (λa w=>∃(j:Int),IV B S m (34,[]) a w [(7,.int .u64 j)] (L) λ_ _=>IntKind.has .u64 j∧Is N j=some r) ?_ ?_))))))))))
 ·refine AW O E (λH E=>?_) (λH E=>?_)
  ·refine BZ (.inl O) (AA O (JI O O O (AK O (kp [7] O) (WF.nil (λt u g i=>?_)))))
   exact⟨(IntKind.wrap .u64 (d.1+1)),_,_,g.sub (kp [7] O),i,k,(CA.refl S m),(EA _ _),E⟩
  refine AQ (WF.nil (λt u g i=>?_))
  exact⟨d.1,_,_,g.sub (kp [7] O),i,k,(CA.refl S m),F,E⟩
 rintro t u ⟨j,X,Y,g,i,y,I,Z,E⟩
 refine Ac ?_ g i
 clear g i u t
 rw[Is] at E
 refine AI (AA O (HW O K8 OG O (AK O (kp [4] O) (Ad (λt u g i=>?_)))))
 cases E
 exact Dx g i O O (V.trans (G.trans I)) ⟨O,(BK _),y⟩
theorem NV (hs:St S L h) {c:Value}{b:(List (List BS))}(d:Sl S h (AM.sl Bv) c b) {r:Int}(E:Ht N b=some r):
 CL Tryz.prog 80 #[c] S h (λv S' h'=>v=vI r∧AH r∧St S' (L) h'):=by
 refine BG (l:=[c]) 48 Tryz.func80 O Tryz.ntmps80 O λB=>?_
 rw[Ht] at E
 refine AI (AK O (kp [0] O) (AI (AK O (kp [3,0] O) (AC (AI (AA O (An O d Vq O λb1=>AA O (AN (kp [9,8,7,3] O) (Am (λa w=>∃(W:Int),IV B S h (48,[]) a w [(3,vI W)] (L) λ_ _=>AH W∧DV N W=some r) ?_ ?_)))))))))
 ·refine A5 (λX=>λa w=>∃(D:Int) (k:Int),IV B S h (48,[]) a w [(8,vI (↑b.length:Int)),(7,c),(3,vI D),(9,vI k)] (L) λ_ _=>AH D∧AH k∧Ca N b (DV N) X D k=some r) N ?_ ?_ ?_
  ·intro m p g i
   exact⟨0,0,_,_,g.sub (kp [8,7,3,9] O),i,hs,(CA.refl S h),(iq (n:=0) O),(iq (n:=0) O),E⟩
  ·rintro m p ⟨_,_,_,_,_,_,_,_,_,_,E⟩
   rw[Ca] at E;cases E
  rintro X m p ⟨D,k,z,A,g,i,t,C,r9,av,E⟩
  refine Ac ?_ g i
  clear g i p m
  rw[Ca] at E
  refine AI (Ar O (AN (kp [10,8,7,3,9] O) (AC (AW O E (λY E=>?_) (λY E=>?_)))))
  ·refine AQ (AC (Am (λa w=>∃(u:Int),IV B z A (48,[]) a w [(8,vI (↑b.length:Int)),(7,c),(9,vI k),(3,vI u)] (L) λ_ _=>AH u∧Ej N k (Ca N b (DV N) X) u=some r) ?_ ?_))
   ·refine AI ?_
    obtain⟨Z,F,E⟩:=bd E
    refine BE O O (d.mono' C) Vq F O λaw ab=>Ao A9 t.1 O ab IX O λac x=>AK O (kp [5,8,7,3,9] O) (AI (AK O (kp [6,5,8,7,3,9] O) (BB (A5 (λn3=>λa w=>∃(s:Int) (y:Int),IV B z A (48,[]) a w [(5,ac),(8,vI (↑b.length:Int)),(7,c),(9,vI k),(3,vI s),(6,vI y)] (L) λ_ _=>AH s∧AH y∧D2 N Z (Ej N k (Ca N b (DV N) X)) n3 s y=some r) N ?_ ?_ ?_))))
    ·intro m p g i
     exact⟨D,1,_,_,g.sub (kp [5,8,7,9,3,6] O),i,t,(CA.refl z A),r9,(iq (n:=1) O),E⟩
    ·rintro m p ⟨_,_,_,_,_,_,_,_,_,_,E⟩
     rw[D2] at E;cases E
    rintro n3 m p ⟨s,y,ax,ay,g,i,j,q,G,az,E⟩
    refine Ac ?_ g i
    clear g i p m
    rw[D2] at E
    refine AC (AI (AA O (AA O (An O (x.mono' q) H8 O λa0=>Ar O (AN (kp [16,5,8,7,9,3,6] O) (AW O E (λad E=>?_) (λad E=>?_)))))))
    ·refine AQ (AC (BB (Bq (.inr ⟨mo,by kernel_rfl⟩) j (AA O (AA O (AA O ?_))))))
     obtain⟨a1,H,E⟩:=bd E
     refine BE O O (x.mono' q) H8 H O λa2 ae=>Ae O ae Kx IQ O λa3 af=>Af Bd j.1 O af Ag O λa4=>AA O (AA O (Ck O ?_))
     obtain⟨a5,I,E⟩:=bd E
     refine BE O O (x.mono' q) H8 I O λa6 ag=>Ae O ag Kx IQ O λa7 ah=>Af Bd j.1 O ah Ag O λa8=>Ck O (AA O (AA O ?_))
     obtain⟨a9,J,E⟩:=bd E
     refine BE O O (x.mono' q) H8 J O λba ai=>Ae O ai Ky JD O λbb aj=>Af Bd j.1 O aj Ag O λbc=>AA O (AA O (Ck O ?_))
     obtain⟨be,K,E⟩:=bd E
     refine BE O O (x.mono' q) H8 K O λbf ak=>Ae O ak Ky JD O λbg al=>Af Bd j.1 O al Ag O λbh=>Ck O ?_
     obtain⟨am,M,E⟩:=bd E
     refine CY O O O Qr O (λh' o=>HE (St.all h') (BK _) (BK _) M) λan=>?_
     have ao:=an
     refine P7 O O O (AY O (BM (kp [3,5,8,7,9,6] O) λbi Q ap=>BO (BZ (.inl O) (AA O (Ai O (AK O (kp [6,3,5,8,7,9] O) (WF.nil (λm p g i=>?_))))))))
     exact⟨(max s am),(BD (y+1)),_,_,g.sub (kp [5,8,7,9,3,6] O),i,Q,(q.trans ap),(OP G ao),(BK _),E⟩
    refine Kw O (WF.nil (λm p g i=>?_))
    exact⟨s,_,_,g.sub (kp [8,7,9,3] O),i,j,q,G,E⟩
   rintro m p ⟨u,bj,bk,g,i,U,aq,ar,E⟩
   refine Ac ?_ g i
   clear g i p m
   rw[Ej] at E
   refine BZ (.inl O) (Ai O (AA O (AN (kp [9,8,7,3] O) (WF.nil (λm p g i=>?_)))))
   exact⟨u,(BD (k+1)),_,_,g.sub (kp [8,7,3,9] O),i,U,(C.trans aq),ar,(BK _),E⟩
  refine BC O (λm p g i=>?_)
  exact⟨D,_,_,g.sub (kp [3] O),i,t,C,r9,E⟩
 rintro m p ⟨W,bl,bm,g,i,V,au,r3,E⟩
 refine Ac ?_ g i
 clear g i p m
 rw[DV] at E
 refine AI (AA O (AK O (kp [2] O) (Ad (λm p g i=>?_))))
 cases E
 exact Dx g i O O au ⟨O,r3,V⟩
theorem MF (hs:St S L h) {Y:Value}{s:AX}(a4:Rd S h B1 Y s) {r:Bool}(E:GY N s=some r):
 CL Tryz.prog 52 #[Y] S h (λv S' h'=>v= .bool r∧St S' (L) h'):=by
 refine BG (l:=[Y]) 128 Tryz.func52 O Tryz.ntmps52 O λB=>?_
 rw[GY] at E
 refine WF.sl (B4 O a4 (λe=>by cases e) O hs λq1 S2 h3 du e5 k6=>AG 1 (AY O (AF (AZ (kp [1] O) (WF.sl (AG 3 (Ae O k6 BP C1 O λq7 k8=>Ao A9 du.1 O k8 F7 O λv9 f9=>An O f9 FA O λjt=>AF ?_)))))))
 obtain⟨dv,E⟩:=Lr E
 refine JO (r:=AM.int) (zx:=0) Ef O ⟨O,by unfold AH;omega⟩ O O dv O O du λt bt a9 bu=>AG 1 (AY O (AF (AZ (kp [3,1] O) (AC (AI ?_)))))
 have dw:=k6.mono bu
 refine Ae O dw BP C1 O λju ga=>Ao A9 a9.1 O ga F7 O λgb dx=>An O dx FA O λjv=>AA O (AN (kp [17,16,15,3,1] O) (Am (λa w=>∃(a5:List Int),IV B S2 bt (128,[]) a w [(3,t),(1,q1)] (OS AM.int 3 t a5::L) λ_ _=>DA N s a5=some r) ?_ ?_))
 ·refine A5 (λn1=>λa w=>∃(ab:Int) (ak:List Int),IV B S2 bt (128,[]) a w [(16,vI (↑s.Places.length:Int)),(15,gb),(3,t),(1,q1),(17,vI ab)] (OS AM.int 3 t ak::L) λ_ _=>AH ab∧C8 N s (DA N s) n1 ab ak=some r) N ?_ ?_ ?_
  ·intro y z g j
   exact⟨0,(List.replicate ((↑s.Places.length:Int):Int).toNat (0:Int)),_,_,g.sub (kp [16,15,3,1,17] O),j,a9,(CA.refl S2 bt),(iq (n:=0) O),E⟩
  ·rintro y z ⟨_,_,_,_,_,_,_,_,_,E⟩
   rw[C8] at E;cases E
  rintro n1 y z ⟨ab,ak,jw,jx,g,j,an,bv,jy,E⟩
  refine Ac ?_ g j
  clear g j z y
  rw[C8] at E
  refine AI (Ar O (AN (kp [18,16,15,3,1,17] O) (AC (AW O E (λgc E=>?_) (λgc E=>?_)))))
  ·refine AQ (AC (BB (WF.sl (AG 3 (AA O ?_)))))
   obtain⟨C,dy,E⟩:=bd E
   refine BE O O (dx.mono' bv) FA dy O λjz gd=>B8 A9 an.1 O gd J4 (λe=>by cases e) O λj0 ge=>AF (Cp OZ O an λj1 j2 dz d0=>AG 1 (AY O (AF ?_)))
   obtain⟨d1,d2,d3,rfl,j3,j4,j5,j6,gf,gg,gh,gi,j7,j8,j9,gj⟩:=B0.ex (ge.mono d0)
   refine G7 (vs:=[.string C.Name,vI C.Kind,vI C.Office,vI C.Cap,d1,d2,vI C.Num,vI C.Den,vI C.Down,vI C.Delay,vI C.Floor,d3]) (cs':=[.string C.Name,vI C.Kind,vI C.Office,vI C.Cap,d1,d2,vI C.Num,vI C.Den,vI C.Down,vI C.Delay,vI C.Floor,d3]) O O O (AE O (AE O (AE O (AE O (AE gf.one (AE gg.one (AE O (AE O (AE O (AE O (AE O (AE gj.one EH)))))))))))) J4 O dz .head O O λka ao gk=>AZ (kp [4,5,16,15,3,1,17] O) (D3 (AG 6 (AA O (AA O (AD Rf O (AS A9 ao O mh O Ag O (AD K5 O (AS A9 ao O mh O Ag O (AF ?_)))))))))
   obtain⟨d4,d5,E⟩:=bd E
   refine BX O O O Qr O ao (HE (St.all _) gh gi d5) λkb kc kd ba gl ke p=>?_
   obtain⟨rfl,gm,gu⟩:=p
   refine AG 1 ?_
   obtain⟨kf,d6,E⟩:=bd E
   refine A8 ba (mt mh) O O BQ d6 O λkg d7=>AF ?_
   obtain⟨gn,d8,E⟩:=bd E
   refine E3 (r:=AM.int) (l:=ak) (i:=ab) (x:=gn) O O (⟨_,O,O,gm⟩:Rd _ _ AM.int _ d4) d7 d8 Lv.id Ag (λ_=>rfl) ba (.tail .head) λkh d9 gp=>AZ (kp [16,15,3,1,17] O) (BO (BZ (.inl O) (Ai O (AA O (AN (kp [17,16,15,3,1] O) (WF.nil (λy z g j=>?_)))))))
   have ea:=d9.sel [1] 1 O
   exact⟨(BD (ab+1)),(upd ak ab d4),_,_,g.sub (kp [16,15,3,1,17] O),j,ea,(bv.trans (d0.trans (gk.trans (gl.trans gp)))),(BK _),E⟩
  refine BC O (λy z g j=>?_)
  exact⟨ak,_,_,g.sub (kp [3,1] O),j,an,bv,E⟩
 rintro y z ⟨a5,bw,bx,g,j,bb,bz,E⟩
 refine Ac ?_ g j
 clear g j z y
 rw[DA] at E
 refine AC (AI (Ae O (dw.mono bz) D1 Gc O λki gq=>Ao A9 bb.1 O gq JR O λap eb=>An O eb Hf O λkj=>AA O (AN (kp [34,33,32,3] O) (Am (λa w=>∃(am:List Int),IV B bw bx (128,[]) a w [(3,t)] (OS AM.int 3 t am::L) λ_ _=>CH N am=some r) ?_ ?_))))
 ·refine A5 (λn3=>λa w=>∃(M:Int) (D:List Int),IV B bw bx (128,[]) a w [(33,vI (↑s.Links.length:Int)),(32,ap),(3,t),(34,vI M)] (OS AM.int 3 t D::L) λ_ _=>AH M∧BR N s (CH N) n3 M D=some r) N ?_ ?_ ?_
  ·intro y z g j
   exact⟨0,a5,_,_,g.sub (kp [33,32,3,34] O),j,bb,(CA.refl bw bx),(iq (n:=0) O),E⟩
  ·rintro y z ⟨_,_,_,_,_,_,_,_,_,E⟩
   rw[BR] at E;cases E
  rintro n3 y z ⟨M,D,u,ec,g,j,ac,aq,kk,E⟩
  refine Ac ?_ g j
  clear g j z y
  rw[BR] at E
  refine AI (Ar O (AN (kp [35,33,32,3,34] O) (AC (AW O E (λed E=>?_) (λed E=>?_)))))
  ·refine AQ (AC (Am (λa w=>∃(ae:List Int),IV B u ec (128,[]) a w [(33,vI (↑s.Links.length:Int)),(32,ap),(3,t),(34,vI M)] (OS AM.int 3 t ae::L) λ_ _=>B9 N M (BR N s (CH N) n3) ae=some r) ?_ ?_))
   ·refine WF.sl (AG 2 ?_)
    obtain⟨c,b0,E⟩:=bd E
    refine BE O O (eb.mono' aq) Hf b0 O λgv ee=>B8 A9 ac.1 O ee Hd (λe=>by cases e) O λgw ef=>AF (Cp OY O ac λF gx b1 U=>?_)
    obtain⟨af,ag,ah,rfl,gy,gz,eg,g0,bc,be,bf,g1,g2,g3,g4,bg,bh,g5,g6,bi,bj,g7⟩:=Bu.ex (ef.mono U)
    refine G7 (vs:=[.string c.Name,vI c.Kind,vI c.From,vI c.To,af,ag,ah,vI c.Positions,vI c.Speed,vI c.Leak,vI c.Crest,vI c.Num,vI c.Den,vI c.Prime,vI c.Break,vI c.BackNum,vI c.BackDen,vI c.Delay]) (cs':=[.string c.Name,vI c.Kind,vI c.From,vI c.To,af,ag,ah,vI c.Positions,vI c.Speed,vI c.Leak,vI c.Crest,vI c.Num,vI c.Den,vI c.Prime,vI c.Break,vI c.BackNum,vI c.BackDen,vI c.Delay]) O O O (AE O (AE O (AE O (AE O (AE bc.one (AE be.one (AE bf.one (AE O (AE O (AE O (AE O (AE O (AE O (AE O (AE O (AE O (AE O (AE O EH)))))))))))))))))) Hd O b1 .head O O λH d I=>AZ (kp [7,33,32,3,34] O) (AI (AD GK O (AS A9 d O mh O Ag O (AN (kp [39,7,33,32,3,34] O) (BB (AI (BL O (AK O (kp [40,39,7,33,32,3,34] O) (AW O E (λeh E=>?_) (λeh E=>?_))))))))))
    ·refine AC ?_
     obtain⟨g8,b2,E⟩:=bd E
     obtain⟨J,b3,E⟩:=bd E
     obtain⟨K,b4,E⟩:=bd E
     obtain⟨g9,b5,E⟩:=bd E
     refine Mk (m:=[(7,vP F 0),(33,vI (↑s.Links.length:Int)),(32,ap),(3,t),(34,vI M)]) 17 (λi v hh=>match i with|0=>v=t|1=>v=vP F 2|2=>v=vI c.From∧AH c.From|3=>EP t (c.From.toNat*(AM.int).sz+0) v|4=>v=vI J∧AH J|5=>v=vP F 4|6=>Sl u hh Bv v c.Rate|7=>v=vP F 5|8=>v=vP F 5|9=>Sl u hh Bv v c.Band.Lo|10=>v=vP F 5|11=>v=vP F 6|12=>Sl u hh Bv v c.Band.Hi|13=>Sl (SN u H hh) hh (AM.sl Bv) v ([c.Rate,c.Band.Lo,c.Band.Hi]:List (List BS))∧∃ad,v= .slice (some ad) 3 3|14=>v=vI K∧AH K|15=>v=vI (BD (J+K))∧AH (BD (J+K))|16=>EP t (c.From.toNat*(AM.int).sz+0) v|_=>False) [[],[],[(1,43)],[(0,42),(2,44)],[(3,45)],[],[(5,47)],[],[(7,49)],[(8,50)],[],[(10,52)],[(11,53)],[(6,48),(9,51),(12,54)],[(13,55)],[(4,46),(14,56)],[(0,42),(2,44)]] [(15,57),(16,58)] mo (by kernel_rfl) [7,33,32,3,34] O (by kernel_rfl) (by kernel_rfl) (by kernel_rfl) (kp [7,33,32,3,34] O) (λi v h1 h2 o1 o2 hr=>?_) ?_ ?_
     ·match i,hr with
       |0,hr|1,hr|2,hr|3,hr|4,hr|5,hr|7,hr|8,hr|10,hr|11,hr|14,hr|15,hr|16,hr=>exact hr
       |6,hr|9,hr|12,hr=>exact Sl.mono' hr (o2.ext λb hb=>Nat.lt_of_lt_of_le (d.1 b hb) o1.siz)
       |13,hr=>exact⟨Sl.mono' hr.1 (SN.mono d.1 o1 o2),hr.2⟩
       |_+17,hr=>exact hr.elim
     ·refine A3.cons O (λ_ _ _=>AG 1 (AA O (AO O))) (A3.cons O (λ_ _ _=>AG 1 (AD JW O (AO O))) (A3.cons O (λ_ _ o _ ei=>by cases ei;exact AG 1 (AS A9 (o.st d) O mh O Ag O (AO ⟨O,eg⟩))) (A3.cons O (λ_ _ o=>by intro ha ej hc ek;cases ej;obtain ⟨rfl,hd⟩:=ek;exact AG 1 (A8 (o.st d) (mt mh) O O BQ b2 O λhe b6=>AO b6)) ?_)))
      refine A3.cons O ?_ ?_
      ·intro mq hh o
       intro hg el
       have hsN:=o.st d
       refine AG 1 ?_
       have em:=hsN.epAt (mt mh) b3 E9.id el
       exact Af A9 (λ_ x=>x) O em Ag O λen=>AO ⟨O,en⟩
      refine A3.cons O (λ_ _ _=>AG 1 (AD M2 O (AO O))) (A3.cons O (λ_ _ o _ eo=>by cases eo;exact AG 1 (AS A9 (o.st d) O mh O IX O (AO (bc.mono' (I.trans (o.ext d.1)))))) (A3.cons O (λ_ _ _=>AG 1 (AD K4 O (AO O))) (A3.cons O (λ_ _ _ _ ep=>by cases ep;exact AG 1 (AD PM O (AO O))) (A3.cons O (λ_ _ o _ eq=>by cases eq;exact AG 1 (AS A9 (o.st d) O mh O IX O (AO (be.mono' (I.trans (o.ext d.1)))))) (A3.cons O (λ_ _ _=>AG 1 (AD K4 O (AO O))) (A3.cons O (λ_ _ _ _ er=>by cases er;exact AG 1 (AD PL O (AO O))) (A3.cons O (λ_ _ o _ es=>by cases es;exact AG 1 (AS A9 (o.st d) O mh O IX O (AO (bf.mono' (I.trans (o.ext d.1)))))) ?_)))))))
      refine A3.cons O ?_ ?_
      ·intro mq hh o
       intro et V eu W ev X
       have hsN:=SN.st d o
       have V:=Sl.mono' (S':=(SN u H hh)) V ⟨λb hb=> .inl hb,λ_ _=>rfl,Nat.le_refl _⟩
       have V:Sl _ _ Bv et c.Rate:=V
       have W:=Sl.mono' (S':=(SN u H hh)) W ⟨λb hb=> .inl hb,λ_ _=>rfl,Nat.le_refl _⟩
       have W:Sl _ _ Bv eu c.Band.Lo:=W
       have X:=Sl.mono' (S':=(SN u H hh)) X ⟨λb hb=> .inl hb,λ_ _=>rfl,Nat.le_refl _⟩
       have X:Sl _ _ Bv ev c.Band.Hi:=X
       have hsF:=hsN.fz
       obtain⟨b7,a6,rfl,hi⟩:=(V).len
       obtain⟨b8,a7,rfl,hj⟩:=(W).len
       obtain⟨b9,a8,rfl,hk⟩:=(X).len
       refine DY (cs:=[(.slice b7 c.Rate.length a6),(.slice b8 c.Band.Lo.length a7),(.slice b9 c.Band.Hi.length a8)]) Z1 O O O O O O O hsF λhl hm ca ai=>?_
       have ew:=X.mono' ai
       have ey:=W.mono' ai
       have ez:=V.mono' ai
       have cb:=ca.bxos (r:=(AM.sl Bv)) (l:=([c.Rate,c.Band.Lo,c.Band.Hi]:List (List BS))) .head ⟨_,_,O,⟨_,O,ez⟩,⟨_,_,O,⟨_,O,ey⟩,⟨_,_,O,⟨_,O,ew⟩,O⟩⟩⟩ (by simp [maxLen])
       obtain⟨hn,cc,e0,e1⟩:=cb.pubs .head
       have ar:=Fz.done o (ai.trans e0) cc
       exact Cm ar.1 ⟨Sl.mono' e1 ar.2,_,O⟩
      refine A3.cons O ?_ ?_
      ·intro mq hh o
       intro ho au
       have hsN:=SN.st d o
       obtain⟨au,gr,rfl⟩:=au
       refine BX O O O eM O hsN (NV (St.all _) (au.mono (λb hb=>hsN.1 b hb) (λ_ _=>rfl)) b4) λhp hq ht gs hu bk p=>?_
       obtain⟨rfl,e2,gt⟩:=p
       exact Cm ⟨bk.siz,λb hb=>bk.same b hb⟩ ⟨O,e2⟩
      exact A3.cons O (λ_ _ _=>by intro hv e3 hx e4;obtain ⟨rfl,hy⟩:=e3;obtain ⟨rfl,hz⟩:=e4;exact AG 1 (Ai O (AO ⟨O,(BK _)⟩))) (A3.cons O (λ_ _ o=>by intro h0 e6 h4 e7;cases e6;obtain ⟨rfl,h5⟩:=e7;exact AG 1 (A8 (o.st d) (mt mh) O O BQ b5 O λh6 cd=>AO cd)) trivial)
     intro h7 av h8 e8 h9 e9
     have ce:=SN.st d av
     obtain⟨rfl,fb⟩:=e8
     obtain⟨fc,cf,E⟩:=bd E
     refine E3 (r:=AM.int) (l:=D) (i:=c.From) (x:=fc) O O (⟨_,O,O,fb⟩:Rd _ _ AM.int _ (BD (J+K))) e9 cf Lv.id Ag (λ_=>rfl) ce (.tail .head) λia A bl=>AZ (kp [7,33,32,3,34] O) (AI (AD Hz O (AS A9 A O mh O Ag O (Bt O (AN (kp [61,7,33,32,3,34] O) (AW O E (λfd E=>?_) (λfd E=>?_)))))))
     ·refine LE 12 mo (by kernel_rfl) O A (AA O (AD Hz O (AS Bd A O mh O Ag O ?_)))
      obtain⟨ib,cg,E⟩:=bd E
      refine A8 A (mt mh) O O BQ cg O λic ch=>?_
      obtain⟨bm,ci,E⟩:=bd E
      have fe:=A.epAt (mt mh) ci E9.id ch
      refine Af Bd (λ_ x=>x) O fe Ag O λie=>AD Kq O (AS Bd A O mh O Ag O (AD J6 O (AS Bd A O mh O Ag O ?_)))
      obtain⟨bn,cj,E⟩:=bd E
      refine CY O O O Qr O (λh' o=>HE (St.all h') bi bj cj) λff=>?_
      have ig:=ff
      refine Ai O ?_
      obtain⟨ih,ck,E⟩:=bd E
      refine A8 A (mt mh) O O BQ ck O λii cl=>J1 λij cm fg=>?_
      obtain⟨fh,cn,E⟩:=bd E
      refine E3 (r:=AM.int) (l:=(upd D c.From (BD (J+K)))) (i:=c.To) (x:=fh) O O (⟨_,O,O,(BK _)⟩:Rd _ _ AM.int _ (BD (bm+bn))) cl cn Lv.id Ag (λ_=>rfl) cm (.tail .head) λik co fi=>AZ (kp [33,32,3,34] O) (BO (WF.nil (λy z g j=>?_)))
      have cp:=co.sel [1] 1 O
      exact⟨(upd (upd D c.From (BD (J+K))) c.To (BD (bm+bn))),_,_,g.sub (kp [33,32,3,34] O),j,cp,(U.trans (I.trans ((SN.ext d.1 av).trans (bl.trans (fg.trans fi))))),E⟩
     refine AQ (BO (WF.nil (λy z g j=>?_)))
     have cq:=A.sel [1] 1 O
     exact⟨(upd D c.From (BD (J+K))),_,_,g.sub (kp [33,32,3,34] O),j,cq,(U.trans (I.trans ((SN.ext d.1 av).trans bl))),E⟩
    refine AC (AI (BL O (AK O (kp [74,39,7,33,32,3,34] O) (Ge (λa w=>∃(aw:Bool),IV B u H (128,[]) a w [(39,vI c.Kind),(7,vP F 0),(33,vI (↑s.Links.length:Int)),(32,ap),(3,t),(34,vI M),(74,.bool aw)] (Bx F 67 [.string c.Name,vI c.Kind,vI c.From,vI c.To,af,ag,ah,vI c.Positions,vI c.Speed,vI c.Leak,vI c.Crest,vI c.Num,vI c.Den,vI c.Prime,vI c.Break,vI c.BackNum,vI c.BackDen,vI c.Delay]::OS AM.int 3 t D::L) λ_ _=>C9 N D c (B9 N M (BR N s (CH N) n3)) aw=some r) ?_ ?_))))
    ·refine AW O E (λfj E=>?_) (λfj E=>?_)
     ·refine AQ (WF.nil (λy z g j=>?_))
      exact⟨(decide (c.Kind=1)),_,_,g.sub (kp [39,7,33,32,3,34,74] O),j,d,(CA.refl u H),E⟩
     refine AI (BL O (AK O (kp [74,39,7,33,32,3,34] O) (Ge (λa w=>∃(aj:Bool),IV B u H (128,[]) a w [(39,vI c.Kind),(7,vP F 0),(33,vI (↑s.Links.length:Int)),(32,ap),(3,t),(34,vI M),(74,.bool aj)] (Bx F 67 [.string c.Name,vI c.Kind,vI c.From,vI c.To,af,ag,ah,vI c.Positions,vI c.Speed,vI c.Leak,vI c.Crest,vI c.Num,vI c.Den,vI c.Prime,vI c.Break,vI c.BackNum,vI c.BackDen,vI c.Delay]::OS AM.int 3 t D::L) λ_ _=>Gd N (C9 N D c (B9 N M (BR N s (CH N) n3))) aj=some r) ?_ ?_)))
     ·refine AW O E (λfk E=>?_) (λfk E=>?_)
      ·refine AQ (WF.nil (λy z g j=>?_))
       exact⟨(decide (c.Kind=5)),_,_,g.sub (kp [39,7,33,32,3,34,74] O),j,d,(CA.refl u H),E⟩
      refine BZ (.inl O) (BL O (AK O (kp [74,39,7,33,32,3,34] O) (WF.nil (λy z g j=>?_))))
      exact⟨(decide (c.Kind=3)),_,_,g.sub (kp [39,7,33,32,3,34,74] O),j,d,(CA.refl u H),E⟩
     rintro y z ⟨aj,il,im,g,j,cr,fl,E⟩
     refine Ac ?_ g j
     clear g j z y
     rw[Gd] at E
     refine WF.nil (λy z g j=>?_)
     exact⟨aj,_,_,g.sub (kp [39,7,33,32,3,34,74] O),j,cr,fl,E⟩
    rintro y z ⟨aw,io,ip,g,j,k,ax,E⟩
    refine Ac ?_ g j
    clear g j z y
    rw[C9] at E
    refine AW O E (λfm E=>?_) (λfm E=>?_)
    ·refine LE 12 mo (by kernel_rfl) O k (AA O (AD JW O (AS Bd k O mh O Ag O ?_)))
     obtain⟨ir,ct,E⟩:=bd E
     refine A8 k (mt mh) O O BQ ct O λit cu=>?_
     obtain⟨bo,cv,E⟩:=bd E
     have fn:=k.epAt (mt mh) cv E9.id cu
     refine Af Bd (λ_ x=>x) O fn Ag O λiu=>AD Ib O (AS Bd k O mh O Ag O (AD JX O (AS Bd k O mh O Ag O ?_)))
     obtain⟨bp,cw,E⟩:=bd E
     refine CY O O O Qr O (λh' o=>HE (St.all h') bg bh cw) λfo=>?_
     have iv:=fo
     refine Ai O ?_
     obtain⟨iw,cx,E⟩:=bd E
     refine A8 k (mt mh) O O BQ cx O λiy cy=>J1 λiz cz fp=>?_
     obtain⟨fq,c0,E⟩:=bd E
     refine E3 (r:=AM.int) (l:=D) (i:=c.From) (x:=fq) O O (⟨_,O,O,(BK _)⟩:Rd _ _ AM.int _ (BD (bo+bp))) cy c0 Lv.id Ag (λ_=>rfl) cz (.tail .head) λi0 c1 fr=>AZ (kp [33,32,3,34] O) (BO (WF.nil (λy z g j=>?_)))
     have c2:=c1.sel [1] 1 O
     exact⟨(upd D c.From (BD (bo+bp))),_,_,g.sub (kp [33,32,3,34] O),j,c2,(U.trans (I.trans (ax.trans (fp.trans fr)))),E⟩
    refine AI (BL O (AK O (kp [90,7,33,32,3,34] O) (AW O E (λfs E=>?_) (λfs E=>?_))))
    ·refine AC (LE 13 mo (by kernel_rfl) O k (AA O (AD JW O (AS Bd k O mh O Ag O ?_))))
     obtain⟨i1,c3,E⟩:=bd E
     refine A8 k (mt mh) O O BQ c3 O λi2 c4=>?_
     obtain⟨ay,c5,E⟩:=bd E
     have ft:=k.epAt (mt mh) c5 E9.id c4
     refine Af Bd (λ_ x=>x) O ft Ag O λi3=>AD Ib O (AS Bd k O mh O Ag O (AD JX O (AS Bd k O mh O Ag O ?_)))
     obtain⟨az,c6,E⟩:=bd E
     refine CY O O O Qr O (λh' o=>HE (St.all h') bg bh c6) λfu=>?_
     have i4:=fu
     refine Uh O O O (Ai O ?_)
     obtain⟨i5,c7,E⟩:=bd E
     refine A8 k (mt mh) O O BQ c7 O λi6 c8=>J1 λi7 c9 fv=>?_
     obtain⟨fw,da,E⟩:=bd E
     refine E3 (r:=AM.int) (l:=D) (i:=c.From) (x:=fw) O O (⟨_,O,O,(BK _)⟩:Rd _ _ AM.int _ (BD (ay+(BD (2*az))))) c8 da Lv.id Ag (λ_=>rfl) c9 (.tail .head) λi8 G fx=>AZ (kp [7,33,32,3,34] O) (LE 13 mo (by kernel_rfl) O G (AA O (AD Hz O (AS Bd G O mh O Ag O ?_))))
     obtain⟨i9,db,E⟩:=bd E
     refine A8 G (mt mh) O O BQ db O λja dc=>?_
     obtain⟨bq,dd,E⟩:=bd E
     have fy:=G.epAt (mt mh) dd E9.id dc
     refine Af Bd (λ_ x=>x) O fy Ag O λjb=>AD Kq O (AS Bd G O mh O Ag O (AD J6 O (AS Bd G O mh O Ag O ?_)))
     obtain⟨br,de,E⟩:=bd E
     refine CY O O O Qr O (λh' o=>HE (St.all h') bi bj de) λf0=>?_
     have jc:=f0
     refine Uh O O O (Ai O ?_)
     obtain⟨jd,df,E⟩:=bd E
     refine A8 G (mt mh) O O BQ df O λje dg=>J1 λjf dh f1=>?_
     obtain⟨f2,di,E⟩:=bd E
     refine E3 (r:=AM.int) (l:=(upd D c.From (BD (ay+(BD (2*az)))))) (i:=c.To) (x:=f2) O O (⟨_,O,O,(BK _)⟩:Rd _ _ AM.int _ (BD (bq+(BD (2*br))))) dg di Lv.id Ag (λ_=>rfl) dh (.tail .head) λjg dj f3=>AZ (kp [33,32,3,34] O) (BO (WF.nil (λy z g j=>?_)))
     have dk:=dj.sel [1] 1 O
     exact⟨(upd (upd D c.From (BD (ay+(BD (2*az))))) c.To (BD (bq+(BD (2*br))))),_,_,g.sub (kp [33,32,3,34] O),j,dk,(U.trans (I.trans (ax.trans (fv.trans (fx.trans (f1.trans f3)))))),E⟩
    refine AQ (BO (WF.nil (λy z g j=>?_)))
    have dl:=k.sel [1] 1 O
    exact⟨D,_,_,g.sub (kp [33,32,3,34] O),j,dl,(U.trans (I.trans ax)),E⟩
   rintro y z ⟨ae,jh,ji,g,j,dm,f4,E⟩
   refine Ac ?_ g j
   clear g j z y
   rw[B9] at E
   refine BZ (.inl O) (Ai O (AA O (AN (kp [34,33,32,3] O) (WF.nil (λy z g j=>?_)))))
   exact⟨(BD (M+1)),ae,_,_,g.sub (kp [33,32,3,34] O),j,dm,(aq.trans f4),(BK _),E⟩
  refine BC O (λy z g j=>?_)
  exact⟨D,_,_,g.sub (kp [3] O),j,ac,aq,E⟩
 rintro y z ⟨am,a0,a1,g,j,a2,bs,E⟩
 refine Ac ?_ g j
 clear g j z y
 rw[CH] at E
 refine AC (AI (AA O (Kc a2 mh O BQ O λjj=>AA O (AN (kp [121,120,119] O) (Am (λa w=>IV B a0 a1 (128,[]) a w [] (L) λ_ _=>Ea N=some r) ?_ ?_)))))
 ·refine A5 (λn8=>λa w=>∃(Z:Int),IV B a0 a1 (128,[]) a w [(120,vI (↑am.length:Int)),(119,t),(121,vI Z)] (OS AM.int 3 t am::L) λ_ _=>AH Z∧C7 N am (Ea N) n8 Z=some r) N ?_ ?_ ?_
  ·intro y z g j
   exact⟨0,_,_,g.sub (kp [120,119,121] O),j,a2,(CA.refl a0 a1),(iq (n:=0) O),E⟩
  ·rintro y z ⟨_,_,_,_,_,_,_,_,E⟩
   rw[C7] at E;cases E
  rintro n8 y z ⟨Z,jk,jl,g,j,Q,a3,jm,E⟩
  refine Ac ?_ g j
  clear g j z y
  rw[C7] at E
  refine AI (Ar O (AN (kp [122,120,119,121] O) (AC (AW O E (λf5 E=>?_) (λf5 E=>?_)))))
  ·refine AQ (AC (BB (AI ?_)))
   obtain⟨jn,dn,E⟩:=bd E
   refine A8 Q mh O O BQ dn O λjo dp=>?_
   obtain⟨jp,dq,E⟩:=bd E
   have f6:=Q.epAt mh dq E9.id dp
   refine Af A9 (λ_ x=>x) O f6 Ag O λjq=>AK O (kp [9,120,119,121] O) (AI (AA O (Bf O (AN (kp [126,120,119,121] O) (AW O E (λf7 E=>?_) (λf7 E=>?_))))))
   ·refine AI (AK O (kp [2] O) (Ad (λy z g j=>?_)))
    have dr:=Q.drop .head
    cases E
    exact Dx g j O O (e5.trans (bu.trans (bz.trans (bs.trans a3)))) ⟨O,dr⟩
   refine AQ (BO (BZ (.inl O) (Ai O (AA O (AN (kp [121,120,119] O) (WF.nil (λy z g j=>?_)))))))
   exact⟨(BD (Z+1)),_,_,g.sub (kp [120,119,121] O),j,Q,a3,(BK _),E⟩
  refine BC O (λy z g j=>?_)
  have ds:=Q.drop .head
  exact⟨_,_,g.sub Oy,j,ds,a3,E⟩
 rintro y z ⟨jr,js,g,j,dt,f8,E⟩
 refine Ac ?_ g j
 clear g j z y
 rw[Ea] at E
 refine AI (AK O (kp [2] O) (Ad (λy z g j=>?_)))
 cases E
 exact Dx g j O O (e5.trans (bu.trans (bz.trans (bs.trans f8)))) ⟨O,dt⟩
end Go.Proofs.YtblcgjadhemlbaaGreat
