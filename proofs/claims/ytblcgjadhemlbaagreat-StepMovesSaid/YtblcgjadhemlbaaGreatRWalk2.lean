import Derived.Test.YtblcgjadhemlbaaGreatRWalk1
namespace Go.Proofs.YtblcgjadhemlbaaGreat
open Go.RowKit
set_option linter.unusedVariables false
set_option linter.unusedSimpArgs false
set_option maxRecDepth 10000
set_option maxHeartbeats 2000000
variable {N:Nat}{S:Nat→Prop}{L:List HP}{h:Aw}
theorem JN (hs:St S L h) {b:Int}(d:AH b) {a:Int}(g:AH a) {r:Bool}(E:Fu N b a=some r):
 CL Tryz.prog 73 #[vI b,vI a] S h (λv S' h'=>v= .bool r∧St S' (L) h'):=by
 refine BG (l:=[vI b,vI a]) 19 Tryz.func73 O Tryz.ntmps73 O λB=>?_
 rw[Fu] at E
 refine AI (AK O (kp [0,1] O) (AC (Bq (.inl O) hs (AA O ?_))))
 obtain⟨q,j,E⟩:=bd E
 refine A6 O O O Jm O (λh' o=>B3 (St.all h') d j) (AA O ?_)
 obtain⟨k,c,E⟩:=bd E
 refine AV 3 10 (.bool k) ?_ ?_
 ·cases p:q
  ·have c:=F5 p c
   cases c
   exact Aa O O
  have c:=Fy p c
  refine AB O (AA O (AB O ?_))
  obtain⟨u,m,c⟩:=bd c
  refine A6 O O O Jm O (λh' o=>B3 (St.all h') g m) (AJ O ?_)
  cases c
  exact AU O
 refine AA O (AV 7 18 (.bool (k&&((decide (a≠0))||(decide (b=0))))) ?_ ?_)
 ·cases w:k
  ·exact Aa O O
  refine AB O (AA O (AB O (Bt O (AB O (AA O (AV 3 17 (.bool ((decide (a≠0))||(decide (b=0)))) ?_ ?_))))))
  ·cases x:(decide (a≠0))
   ·exact AB O (AA O (AB O (BL O (AB O (AJ O (AU O))))))
   exact Aa O O
  exact AJ O (AU O)
 refine AY O (BM (kp [4] O) λy i n=>Ad (λz A s t=>?_))
 cases E
 exact Dx s t O O n ⟨O,i⟩
theorem GS (hs:St S L h) {b:Int}(c:AH b) {a:Int}(d:AH a) {r:Bool}(E:EO N b a=some r):
 CL Tryz.prog 75 #[vI b,vI a] S h (λv S' h'=>v= .bool r∧St S' (L) h'):=by
 refine BG (l:=[vI b,vI a]) 9 Tryz.func75 O Tryz.ntmps75 O λB=>?_
 rw[EO] at E
 refine AI (AK O (kp [0,1] O) (AC (Bq (.inl O) hs (AA O (AA O (Ck O ?_))))))
 obtain⟨p,g,E⟩:=bd E
 refine A6 O O O Hu O (λh' o=>Bs (St.all h') c (iq (n:=0) O) (BK _) g) (AY O (BM (kp [4] O) λq i j=>Ad (λs t k m=>?_)))
 cases E
 exact Dx k m O O j ⟨O,i⟩
theorem LV (hs:St S L h) {c:Value}{j:AX}(i:Rd S h B1 c j) {a:Int}(k:AH a) {b:Int}(g:AH b) {r:Bool}(E:Hs N j a b=some r):
 CL Tryz.prog 74 #[c,vI a,vI b] S h (λv S' h'=>v= .bool r∧St S' (L) h'):=by
 refine BG (l:=[c,vI a,vI b]) 21 Tryz.func74 O Tryz.ntmps74 O λB=>?_
 rw[Hs] at E
 refine WF.sl (B4 O i (λe=>by cases e) O hs λJ S2 K m z A=>AG 1 (AY O (AF (AZ (kp [3,1,2] O) (AC (Bq (.inl O) m (AA O (BL O (AA O ?_)))))))))
 obtain⟨C,d,E⟩:=bd E
 refine AV 11 20 (.bool C) ?_ ?_
 ·cases y:(decide (b=(-1)))
  ·have d:=F5 y d
   refine AB O (AA O (AB O (Ae O A BP C1 O λM t=>AB O (Ao Bd m.1 O t F7 O λD u=>AB O (An O u FA O λw=>AB O ?_)))))
   obtain⟨n,p,d⟩:=bd d
   refine A6 O O O P2 O (λh' o=>GS (St.all h') g (Jl w) p) (AB O (AA O (AV 4 19 (.bool (n&&(decide (b≠a)))) ?_ ?_)))
   ·cases F:n
    ·exact Aa O O
    exact AB O (AA O (AB O (AA O (AB O (Bt O (AB O (AJ O (AU O))))))))
   refine AJ O ?_
   cases d
   exact AU O
  have d:=Fy y d
  cases d
  exact Aa O O
 refine AY O (BM (kp [6] O) λG s x=>Ad (λQ U H I=>?_))
 cases E
 exact Dx H I O O (z.trans x) ⟨O,s⟩
theorem MG (hs:St S L h) {K:Value}{c:AX}(ap:Rd S h B1 K c) {r:Bool}(E:Hb N c=some r):
 CL Tryz.prog 49 #[K] S h (λv S' h'=>v= .bool r∧St S' (L) h'):=by
 refine BG (l:=[K]) 122 Tryz.func49 O Tryz.ntmps49 O λB=>?_
 rw[Hb] at E
 refine WF.sl (B4 O ap (λe=>by cases e) O hs λq1 S2 h3 bj e5 k6=>AG 1 (AY O (AF (AZ (kp [1] O) (AI (AK O (kp [3,1] O) (AC (AI (Ae O k6 BP C1 O λq7 k8=>Ao A9 bj.1 O k8 F7 O λv9 bk=>An O bk FA O λd4=>AA O (AN (kp [14,13,12,3,1] O) (Am (λa w=>∃(aq:Int),IV B S2 h3 (122,[]) a w [(3,vI aq)] (L) λ_ _=>AH aq∧Br N aq=some r) ?_ ?_)))))))))))
 ·refine A5 (λn1=>λa w=>∃(af:Int) (k:Int),IV B S2 h3 (122,[]) a w [(13,vI (↑c.Places.length:Int)),(12,v9),(1,q1),(3,vI af),(14,vI k)] (L) λ_ _=>AH af∧AH k∧Bc N c (Br N) n1 af k=some r) N ?_ ?_ ?_
  ·intro m p g i
   exact⟨0,0,_,_,g.sub (kp [13,12,1,3,14] O),i,bj,(CA.refl S2 h3),(iq (n:=0) O),(iq (n:=0) O),E⟩
  ·rintro m p ⟨_,_,_,_,_,_,_,_,_,_,E⟩
   rw[Bc] at E;cases E
  rintro n1 m p ⟨af,k,ar,ct,g,i,ag,M,bl,cu,E⟩
  refine Ac ?_ g i
  clear g i p m
  rw[Bc] at E
  refine AI (Ar O (AN (kp [15,13,12,1,3,14] O) (AC (AW O E (λcv E=>?_) (λcv E=>?_)))))
  ·refine AQ (AC (Am (λa w=>∃(ah:Int),IV B ar ct (122,[]) a w [(13,vI (↑c.Places.length:Int)),(12,v9),(1,q1),(14,vI k),(3,vI ah)] (L) λ_ _=>AH ah∧CI N k (Bc N c (Br N) n1) ah=some r) ?_ ?_))
   ·refine WF.sl (AG 3 (AA O ?_))
    obtain⟨b,bm,E⟩:=bd E
    refine BE O O (bk.mono' M) FA bm O λd5 cw=>B8 A9 ag.1 O cw J4 (λe=>by cases e) O λd6 cx=>AF (Cp OZ O ag λau d7 bn Q=>AG 1 (AY O (AF ?_)))
    obtain⟨av,ai,aj,rfl,d8,cy,cz,c0,bo,a4,c1,c2,c3,c4,c5,bp⟩:=B0.ex (cx.mono Q)
    refine G7 (vs:=[.string b.Name,vI b.Kind,vI b.Office,vI b.Cap,av,ai,vI b.Num,vI b.Den,vI b.Down,vI b.Delay,vI b.Floor,aj]) (cs':=[.string b.Name,vI b.Kind,vI b.Office,vI b.Cap,av,ai,vI b.Num,vI b.Den,vI b.Down,vI b.Delay,vI b.Floor,aj]) O O O (AE O (AE O (AE O (AE O (AE bo.one (AE a4.one (AE O (AE O (AE O (AE O (AE O (AE bp.one EH)))))))))))) J4 O bn .head O O λd9 d D=>AZ (kp [4,5,13,12,1,3,14] O) (AC (AC (Bq (.inl O) d (AD X9 O (AS Bd d O mh O Ag O ?_)))))
    obtain⟨c6,bq,E⟩:=bd E
    refine A6 O O O Hu O (λh' o=>Bs (St.all h') cy (iq (n:=0) O) (iq (n:=3) O) bq) (BY O (AA O ?_))
    obtain⟨br,s,E⟩:=bd E
    refine AV 5 28 (.bool br) ?_ ?_
    ·cases bs:(!c6)
     ·have s:=F5 bs s
      refine AB O (AD Lm O (AB O (AS Bd d O mh O Ag O (AB O ?_))))
      obtain⟨ea,bt,s⟩:=bd s
      refine A6 O O O Hu O (λh' o=>Bs (St.all h') cz (iq (n:=0) O) (iq (n:=2) O) bt) (AB O (BY O (AJ O ?_)))
      cases s
      exact AU O
     have s:=Fy bs s
     cases s
     exact Aa O O
    refine AA O ?_
    obtain⟨bu,t,E⟩:=bd E
    refine AV 5 34 (.bool bu) ?_ ?_
    ·cases bv:br
     ·have t:=F5 bv t
      refine AB O (AD PN O (AB O (AS Bd d O mh O Ag O (AB O ?_))))
      obtain⟨eb,bw,t⟩:=bd t
      refine A6 O O O Hu O (λh' o=>Bs (St.all h') c4 (iq (n:=0) O) (iq (n:=240) O) bw) (AB O (BY O (AJ O ?_)))
      cases t
      exact AU O
     have t:=Fy bv t
     cases t
     exact Aa O O
    refine AA O ?_
    obtain⟨bx,u,E⟩:=bd E
    refine AV 5 40 (.bool bx) ?_ ?_
    ·cases bz:bu
     ·have u:=F5 bz u
      refine AB O (AD UT O (AB O (AS Bd d O mh O Ag O (AB O ?_))))
      obtain⟨ec,b0,u⟩:=bd u
      refine A6 O O O Jm O (λh' o=>B3 (St.all h') c0 b0) (AB O (BY O (AJ O ?_)))
      cases u
      exact AU O
     have u:=Fy bz u
     cases u
     exact Aa O O
    refine AA O ?_
    obtain⟨b1,x,E⟩:=bd E
    refine AV 5 46 (.bool b1) ?_ ?_
    ·cases b2:bx
     ·have x:=F5 b2 x
      refine AB O (AD WV O (AB O (AS Bd d O mh O Ag O (AB O ?_))))
      obtain⟨ed,b3,x⟩:=bd x
      refine A6 O O O Jm O (λh' o=>B3 (St.all h') c5 b3) (AB O (BY O (AJ O ?_)))
      cases x
      exact AU O
     have x:=Fy b2 x
     cases x
     exact Aa O O
    refine AA O ?_
    obtain⟨aw,y,E⟩:=bd E
    refine AV 5 52 (.bool aw) ?_ ?_
    ·cases b4:b1
     ·have y:=F5 b4 y
      refine AB O (AD X8 O (AB O (AS Bd d O mh O IX O (AB O ?_))))
      obtain⟨ee,b5,y⟩:=bd y
      refine A6 O O O P3 O (λh' o=>GR (St.all h') ((bo.mono' D).mono' (o.all d.1)) b5) (AB O (BY O (AJ O ?_)))
      cases y
      exact AU O
     have y:=Fy b4 y
     cases y
     exact Aa O O
    refine AA O (AV 8 61 (.bool (aw||(decide ((↑b.Start.length:Int)≠(↑c.Owners.length:Int))))) ?_ ?_)
    ·cases ef:aw
     ·exact AB O (AD Rg O (AB O (AS Bd d O mh O BW O (AB O (An O (a4.mono' D) BQ O λeg=>AB O (Ae O (k6.mono (M.trans (Q.trans D))) EQ H1 O λeh c7=>AB O (Ao Bd d.1 O c7 Kj O λei c8=>AB O (An O c8 KN O λej=>AB O (Bt O (AJ O (AU O)))))))))))
     exact Aa O O
    refine AA O ?_
    obtain⟨b6,z,E⟩:=bd E
    refine AV 7 69 (.bool b6) ?_ ?_
    ·cases b7:(aw||(decide ((↑b.Start.length:Int)≠(↑c.Owners.length:Int))))
     ·have z:=F5 b7 z
      refine AB O (AD Rf O (AB O (AS Bd d O mh O Ag O (AB O (AD K5 O (AB O (AS Bd d O mh O Ag O (AB O ?_))))))))
      obtain⟨ek,b8,z⟩:=bd z
      refine A6 O O O W4 O (λh' o=>JN (St.all h') c1 c2 b8) (AB O (BY O (AJ O ?_)))
      cases z
      exact AU O
     have z:=Fy b7 z
     cases z
     exact Aa O O
    refine AA O ?_
    obtain⟨c9,A,E⟩:=bd E
    refine AV 7 77 (.bool c9) ?_ ?_
    ·cases b9:b6
     ·have A:=F5 b9 A
      refine AB O (B8 Bd d.1 O (k6.mono (M.trans (Q.trans D))) G6 (λe=>by cases e) O λdb ca=>AB O (AA O (AB O (AD PO O (AB O (AS Bd d O mh O Ag O (AB O ?_)))))))
      obtain⟨dc,a5,A⟩:=bd A
      refine A6 O O O ZE O (λh' o=>LV (St.all h') (ca.mono (o.all d.1)) cu c3 a5) (AB O (BY O (AJ O ?_)))
      cases A
      exact AU O
     have A:=Fy b9 A
     cases A
     exact Aa O O
    refine BM (kp [77,5,13,12,1,3,14] O) λak X F=>AW O E (λcb E=>?_) (λcb E=>?_)
    ·refine AI (AK O (kp [2] O) (Ad (λm p g i=>?_)))
     have a6:=X.drop .head
     cases E
     exact Dx g i O O (e5.trans (M.trans (Q.trans (D.trans F)))) ⟨O,a6⟩
    refine AQ (AC (AI (AD Rg O (AS A9 X O mh O BW O ?_))))
    have ax:=a4.mono' (D.trans F)
    refine An O ax BQ O λdd=>AA O (AN (kp [81,80,79,5,13,12,1,3,14] O) (Am (λa w=>∃(G:Int),IV B ar ak (122,[]) a w [(5,vP au 0),(13,vI (↑c.Places.length:Int)),(12,v9),(1,q1),(14,vI k),(3,vI G)] (Bx au 56 [.string b.Name,vI b.Kind,vI b.Office,vI b.Cap,av,ai,vI b.Num,vI b.Den,vI b.Down,vI b.Delay,vI b.Floor,aj]::L) λ_ _=>AH G∧Dp N c b (CI N k (Bc N c (Br N) n1)) G=some r) ?_ ?_))
    ·refine A5 (λn4=>λa w=>∃(J:Int) (U:Int),IV B ar ak (122,[]) a w [(80,vI (↑b.Start.length:Int)),(79,ai),(5,vP au 0),(13,vI (↑c.Places.length:Int)),(12,v9),(1,q1),(14,vI k),(3,vI J),(81,vI U)] (Bx au 56 [.string b.Name,vI b.Kind,vI b.Office,vI b.Cap,av,ai,vI b.Num,vI b.Den,vI b.Down,vI b.Delay,vI b.Floor,aj]::L) λ_ _=>AH J∧AH U∧Cd N b (Dp N c b (CI N k (Bc N c (Br N) n1))) n4 J U=some r) N ?_ ?_ ?_
     ·intro m p g i
      exact⟨af,0,_,_,g.sub (kp [80,79,5,13,12,1,14,3,81] O),i,X,(CA.refl ar ak),bl,(iq (n:=0) O),E⟩
     ·rintro m p ⟨_,_,_,_,_,_,_,_,_,_,E⟩
      rw[Cd] at E;cases E
     rintro n4 m p ⟨J,U,de,df,g,i,Y,ac,cc,dg,E⟩
     refine Ac ?_ g i
     clear g i p m
     rw[Cd] at E
     refine AI (Ar O (AN (kp [82,80,79,5,13,12,1,14,3,81] O) (AC (AW O E (λcd E=>?_) (λcd E=>?_)))))
     ·refine AQ (AC (BB (AI ?_)))
      obtain⟨ce,a7,E⟩:=bd E
      refine BE O O (ax.mono' ac) BQ a7 O λdh cf=>Af A9 Y.1 O cf Ag O λcg=>AK O (kp [7,80,79,5,13,12,1,14,3,81] O) (AC (AC (Bq (.inl O) Y (AA O ?_))))
      obtain⟨di,a8,E⟩:=bd E
      refine A6 O O O Jm O (λh' o=>B3 (St.all h') cg a8) (BY O (BM (kp [87,7,80,79,5,13,12,1,14,3,81] O) λdj am ay=>AW O E (λch E=>?_) (λch E=>?_)))
      ·refine AI (AK O (kp [2] O) (Ad (λm p g i=>?_)))
       have a9:=am.drop .head
       cases E
       exact Dx g i O O (e5.trans (M.trans (Q.trans (D.trans (F.trans (ac.trans ay)))))) ⟨O,a9⟩
      refine AQ (BZ (.inl O) (AA O (AA O (Ai O (AK O (kp [3,80,79,5,13,12,1,14,81] O) (BO (BZ (.inl O) (Ai O (AA O (AN (kp [81,3,80,79,5,13,12,1,14] O) (WF.nil (λm p g i=>?_))))))))))))
      exact⟨(BD (J+ce)),(BD (U+1)),_,_,g.sub (kp [80,79,5,13,12,1,14,3,81] O),i,am,(ac.trans ay),(BK _),(BK _),E⟩
     refine BC O (λm p g i=>?_)
     exact⟨J,_,_,g.sub (kp [5,13,12,1,14,3] O),i,Y,ac,cc,E⟩
    rintro m p ⟨G,az,a0,g,i,an,ad,ci,E⟩
    refine Ac ?_ g i
    clear g i p m
    rw[Dp] at E
    refine AI (AK O (kp [8,5,13,12,1,14,3] O) (AI (AD WU O (AS A9 an O mh O cC O ?_))))
    have a1:=bp.mono' (D.trans (F.trans ad))
    refine An O a1 Yw O λdk=>AA O (AN (kp [95,94,93,8,13,12,1,14,3] O) (BB (A5 (λn5=>λa w=>∃(H:Int) (V:Int),IV B az a0 (122,[]) a w [(94,vI (↑b.Rain.length:Int)),(93,aj),(13,vI (↑c.Places.length:Int)),(12,v9),(1,q1),(14,vI k),(3,vI G),(8,vI H),(95,vI V)] (L) λ_ _=>AH H∧AH V∧Cc N c b G (CI N k (Bc N c (Br N) n1)) n5 H V=some r) N ?_ ?_ ?_)))
    ·intro m p g i
     have ba:=an.drop .head
     exact⟨(-1),0,_,_,g.sub (kp [94,93,13,12,1,14,3,8,95] O),i,ba,(CA.refl az a0),(iq (n:=(-1)) O),(iq (n:=0) O),E⟩
    ·rintro m p ⟨_,_,_,_,_,_,_,_,_,_,E⟩
     rw[Cc] at E;cases E
    rintro n5 m p ⟨H,V,dl,dm,g,i,Z,W,dn,dp,E⟩
    refine Ac ?_ g i
    clear g i p m
    rw[Cc] at E
    refine AI (Ar O (AN (kp [96,94,93,13,12,1,14,3,8,95] O) (AC (AW O E (λcj E=>?_) (λcj E=>?_)))))
    ·refine AQ (AC (BB (WF.sl (AG 2 ?_))))
     obtain⟨C,bb,E⟩:=bd E
     refine BE O O (a1.mono' W) Yw bb O λdq ck=>B8 A9 Z.1 O ck Vb (λe=>by cases e) O λdr cl=>AF (Cp ZR O Z λds dt bc ae=>?_)
     obtain⟨rfl,⟨cm,cn⟩⟩:=KK.ex (cl.mono ae)
     refine Du (vs:=[vI C.Index,vI C.Area]) O O O O Vb O bc .head O λdu I ao=>AZ (kp [10,94,93,13,12,1,14,3,8,95] O) (AC (AC (Bq (.inl O) I (AD Pw O (AS Bd I O mh O Ag O (AA O (GQ O (AA O (AV 6 109 (.bool ((decide (C.Index≤H))||(decide (c.Cells≤C.Index)))) ?_ ?_)))))))))
     ·cases dv:(decide (C.Index≤H))
      ·exact AB O (AD Pw O (AB O (AS Bd I O mh O Ag O (AB O (Ae O (k6.mono (M.trans (Q.trans (D.trans (F.trans (ad.trans (W.trans (ae.trans ao)))))))) K0 Rm O λdw co=>AB O (Af Bd I.1 O co Ag O λdx=>AB O (Gf O (AJ O (AU O)))))))))
      exact Aa O O
     refine AA O ?_
     obtain⟨cp,j,E⟩:=bd E
     refine AV 5 115 (.bool cp) ?_ ?_
     ·cases a2:((decide (C.Index≤H))||(decide (c.Cells≤C.Index)))
      ·have j:=F5 a2 j
       refine AB O (AD WX O (AB O (AS Bd I O mh O Ag O (AB O ?_))))
       obtain⟨dy,be,j⟩:=bd j
       refine A6 O O O Jm O (λh' o=>B3 (St.all h') cn be) (AB O (BY O (AJ O ?_)))
       cases j
       exact AU O
      have j:=Fy a2 j
      cases j
      exact Aa O O
     refine BM (kp [115,10,94,93,13,12,1,14,3,95] O) λdz ab a3=>AW O E (λcq E=>?_) (λcq E=>?_)
     ·refine AI (AK O (kp [2] O) (Ad (λm p g i=>?_)))
      have bf:=ab.drop .head
      cases E
      exact Dx g i O O (e5.trans (M.trans (Q.trans (D.trans (F.trans (ad.trans (W.trans (ae.trans (ao.trans a3))))))))) ⟨O,bf⟩
     refine AQ (BZ (.inl O) (AD Pw O (AS A9 ab O mh O Ag O (AK O (kp [8,94,93,13,12,1,14,3,95] O) (BO (BZ (.inl O) (Ai O (AA O (AN (kp [95,8,94,93,13,12,1,14,3] O) (WF.nil (λm p g i=>?_)))))))))))
     have bg:=ab.drop .head
     exact⟨C.Index,(BD (V+1)),_,_,g.sub (kp [94,93,13,12,1,14,3,8,95] O),i,bg,(W.trans (ae.trans (ao.trans a3))),cm,(BK _),E⟩
    refine Kw O (WF.nil (λm p g i=>?_))
    exact⟨G,_,_,g.sub (kp [13,12,1,14,3] O),i,Z,(Q.trans (D.trans (F.trans (ad.trans W)))),ci,E⟩
   rintro m p ⟨ah,d0,d1,g,i,bh,cr,da,E⟩
   refine Ac ?_ g i
   clear g i p m
   rw[CI] at E
   refine BZ (.inl O) (Ai O (AA O (AN (kp [14,13,12,1,3] O) (WF.nil (λm p g i=>?_)))))
   exact⟨ah,(BD (k+1)),_,_,g.sub (kp [13,12,1,3,14] O),i,bh,(M.trans cr),da,(BK _),E⟩
  refine BC O (λm p g i=>?_)
  exact⟨af,_,_,g.sub (kp [3] O),i,ag,M,bl,E⟩
 rintro m p ⟨aq,d2,d3,g,i,bi,cs,el,E⟩
 refine Ac ?_ g i
 clear g i p m
 rw[Br] at E
 refine AI (AA O (GQ O (AK O (kp [2] O) (Ad (λm p g i=>?_)))))
 cases E
 exact Dx g i O O (e5.trans cs) ⟨O,bi⟩
theorem Ov (hs:St S L h) {d:Int}(t:AH d) {c:Value}{s:(Int→Option Bool)}(u:Rd S h (AM.fn Tryz.prog (λx:Int=>([vI x]:List Value)) (λx:Int=>AH x) (λy:Bool=> .bool y) (λy:Bool=>True)) c s) {r:Int}(E:Jz N d s=some r):
 CL Tryz.prog 110 #[vI d,c] S h (λv S' h'=>v=vI r∧AH r∧St S' (L) h'):=by
 refine BG (l:=[vI d,c]) 26 Tryz.func110 O Tryz.ntmps110 O λB=>?_
 rw[Jz] at E
 obtain⟨J,K,rfl,M,Q⟩:=u.fn
 refine AI (AK O (kp [0,1] O) (AI (AA O (AY O (AK O (kp [6,5,1] O) (AC (Am (λa w=>∃(I:Int),IV B S h (26,[]) a w [(5,vI I)] (L) λ_ _=>AH I∧Hl N I=some r) ?_ ?_)))))))
 ·refine A5 (λY=>λa w=>∃(g:Int) (i:Int),IV B S h (26,[]) a w [(1,(.func (.func J) #[] K)),(5,vI g),(6,vI i)] (L) λ_ _=>AH g∧AH i∧FH N s (Hl N) Y g i=some r) N ?_ ?_ ?_
  ·intro z A k m
   exact⟨0,d,_,_,k.sub (kp [1,5,6] O),m,hs,(CA.refl S h),(iq (n:=0) O),t,E⟩
  ·rintro z A ⟨_,_,_,_,_,_,_,_,_,_,E⟩
   rw[FH] at E;cases E
  rintro Y z A ⟨g,i,Z,ab,k,m,p,q,D,U,E⟩
  refine Ac ?_ k m
  clear k m A z
  rw[FH] at E
  refine AC (AI (AA O (AA O (Ar O (AN (kp [11,1,5,6] O) (AW O E (λV E=>?_) (λV E=>?_)))))))
  ·refine AQ (BB (AI (AA O (AA O (Ai O (HW O OG TK O (Iu (j:=1) O O O O (HW O TK OG O (AK O (kp [7,1,5,6] O) (AC (Bq (.inl O) p (AA O (AA O ?_)))))))))))))
   obtain⟨ac,F,E⟩:=bd E
   refine A6 O O O M O (λh' o=>Q _ h' (λb hb=>Nat.lt_of_lt_of_le (p.1 b (q.sub b hb)) o.siz) (λb hb=>(o.same b (p.1 b (q.sub b hb))).trans (q.same b hb)) [] (St.all h') _ _ (BK _) F) (BY O (BM (kp [21,7,1,5,6] O) λad C G=>AW O E (λW E=>?_) (λW E=>?_)))
   ·refine BZ (.inl O) (AA O (Ai O (AK O (kp [5,1,6] O) (BO (WF.nil (λz A k m=>?_))))))
    exact⟨(BD ((BD (D4 .u64 (IntKind.wrap .u64 (BD (g+i))) 1))+1)),i,_,_,k.sub (kp [1,5,6] O),m,C,(q.trans G),(BK _),U,E⟩
   refine BZ (.inl O) (AA O (AK O (kp [6,1,5] O) (BO (WF.nil (λz A k m=>?_)))))
   exact⟨g,(BD (D4 .u64 (IntKind.wrap .u64 (BD (g+i))) 1)),_,_,k.sub (kp [1,5,6] O),m,C,(q.trans G),D,(BK _),E⟩
  refine BC O (λz A k m=>?_)
  exact⟨g,_,_,k.sub (kp [5] O),m,p,q,D,E⟩
 rintro z A ⟨I,ae,af,k,m,H,X,r6,E⟩
 refine Ac ?_ k m
 clear k m A z
 rw[Hl] at E
 refine AI (AA O (AK O (kp [4] O) (Ad (λz A k m=>?_))))
 cases E
 exact Dx k m O O X ⟨O,r6,H⟩
theorem N0 (hs:St S L h) {c:Int}(i:AH c) {a:Value}{c1_:(List BS)}(d:Pt S h (AM.sl Bv) a c1_) {b:Value}{c2_:Int}(g:Pt S h AM.int b c2_) {r:Bool}(E:HD N c1_ c2_ c=some r):
 CL Tryz.prog 111 #[vI c,a,b] S h (λv S' h'=>v= .bool r∧St S' (L) h'):=by
 refine BG (l:=[vI c,a,b]) 12 Tryz.func111 O Tryz.ntmps111 O λB=>?_
 rw[HD] at E
 refine AI (AK O (kp [0,1,2] O) (AC (BZ (.inr ⟨mo,by kernel_rfl⟩) (Ao A9 hs.1 O d IX O λv1 k=>AA O ?_))))
 obtain⟨q,j,E⟩:=bd E
 refine BE O O k H8 j O λs m=>Ae O m Ky JD O λt n=>Af A9 hs.1 O n Ag O λu=>Af A9 hs.1 O g Ag O λw=>Bf O (AK O (kp [4] O) (Ad (λx y o p=>?_)))
 cases E
 exact Dx o p O O (CA.refl S h) ⟨O,hs⟩
theorem KO (hs:St S L h) {a:Int}(c:IntKind.has .u64 a) {b:Int}(d:IntKind.has .u64 b) {r:Int×Int}(E:GN N a b=some r):
 CL Tryz.prog 94 #[.int .u64 a,.int .u64 b] S h (λv S' h'=>v= .tuple #[.int .u64 r.1,.int .u64 r.2]∧IntKind.has .u64 r.1∧IntKind.has .u64 r.2∧St S' (L) h'):=by
 refine BG (l:=[.int .u64 a,.int .u64 b]) 51 Tryz.func94 O Tryz.ntmps94 O λB=>?_
 rw[GN] at E
 refine AI (AY O (AK O (kp [0,1] O) (AI (AA O (N9 O O O (AK O (kp [6,0,1] O) (AI (AA O (Iu (j:=32) O O O O (AK O (kp [7,6,0,1] O) (AI (AA O (N9 O O O (AK O (kp [8,7,6,0,1] O) (AI (AA O (Iu (j:=32) O O O O (AK O (kp [9,8,7,6,0,1] O) (AI (AA O (AA O (Hc O O O (AK O (kp [10,9,8,7,6,0,1] O) (AI (AA O (AA O (Hc O O O (AA O (Iu (j:=32) O O O O ?_)))))))))))))))))))))))))))))
 refine JI O O O (AK O (kp [11,9,7,6,0,1] O) (AI (AA O (N9 O O O (AK O (kp [12,11,9,7,6,0,1] O) (AI (AA O (Iu (j:=32) O O O O (AK O (kp [13,12,9,7,6,0,1] O) (AI (AA O (AA O (AA O (Hc O O O (JI O O O (AK O (kp [12,13,9,7,0,1] O) (AI (AA O (AA O (Hc O O O (AA O (JI O O O (AA O (Iu (j:=32) O O O O (JI O O O (AK O (kp [4,0,1] O) (AI (AA O (AA O ?_)))))))))))))))))))))))))))))
 refine Hc O O O (AK O (kp [5,4] O) (Ad (λk m g i=>?_)))
 cases E
 exact KH g O i (IK (I1 g (v:=_) O) (IK (I1 g (v:=_) O) KG)) O (CA.refl S h) ⟨O,(EA _ _),(EA _ _),hs⟩
theorem NE (hs:St S L h) {d:Int}(g:IntKind.has .u64 d) {r:Int}(E:HU N d=some r):
 CL Tryz.prog 112 #[.int .u64 d] S h (λv S' h'=>v=vI r∧AH r∧St S' (L) h'):=by
 refine BG (l:=[.int .u64 d]) 25 Tryz.func112 O Tryz.ntmps112 O λB=>?_
 rw[HU] at E
 refine AI (AK O (kp [2,0] O) (AC (AI (AA O (Gf O (AN (kp [4,2,0] O) (Ge (λa w=>∃(y:Int) (z:Int),IV B S h (25,[]) a w [(0,.int .u64 y),(2,vI z)] (L) λ_ _=>IntKind.has .u64 y∧AH z∧FK N y z=some r) ?_ ?_)))))))
 ·refine AW O E (λU E=>?_) (λU E=>?_)
  ·refine AI (AA O (Iu (j:=32) O O O O (AK O (kp [0] O) (BZ (.inl O) (AK O (kp [2,0] O) (WF.nil (λm o b c=>?_)))))))
   exact⟨(D4 .u64 d 32),32,_,_,b.sub (kp [0,2] O),c,hs,(CA.refl S h),(PG _ g _),(iq (n:=32) O),E⟩
  refine AQ (WF.nil (λm o b c=>?_))
  exact⟨d,0,_,_,b.sub (kp [0,2] O),c,hs,(CA.refl S h),g,(iq (n:=0) O),E⟩
 rintro m o ⟨y,z,F,G,b,c,A,V,Q,W,E⟩
 refine Ac ?_ b c
 clear b c o m
 rw[FK] at E
 refine AC (AI (AA O (Gf O (AN (kp [8,0,2] O) (Ge (λa w=>∃(i:Int) (k:Int),IV B F G (25,[]) a w [(0,.int .u64 i),(2,vI k)] (L) λ_ _=>IntKind.has .u64 i∧AH k∧FJ N i k=some r) ?_ ?_)))))
 ·refine AW O E (λH E=>?_) (λH E=>?_)
  ·refine AI (AA O (Iu (j:=16) O O O O (AK O (kp [0,2] O) (BZ (.inl O) (AA O (Ai O (AK O (kp [2,0] O) (WF.nil (λm o b c=>?_)))))))))
   exact⟨(D4 .u64 y 16),(BD (z+16)),_,_,b.sub (kp [0,2] O),c,A,(CA.refl F G),(PG _ Q _),(BK _),E⟩
  refine AQ (WF.nil (λm o b c=>?_))
  exact⟨y,z,_,_,b.sub (kp [0,2] O),c,A,(CA.refl F G),Q,W,E⟩
 rintro m o ⟨i,k,u,x,b,c,s,I,C,J,E⟩
 refine Ac ?_ b c
 clear b c o m
 rw[FJ] at E
 refine AC (AI (AA O (Gf O (AN (kp [14,0,2] O) (Ge (λa w=>∃(p:Int) (q:Int),IV B u x (25,[]) a w [(0,.int .u64 p),(2,vI q)] (L) λ_ _=>IntKind.has .u64 p∧AH q∧FI N p q=some r) ?_ ?_)))))
 ·refine AW O E (λK E=>?_) (λK E=>?_)
  ·refine AI (AA O (Iu (j:=8) O O O O (AK O (kp [0,2] O) (BZ (.inl O) (AA O (Ai O (AK O (kp [2,0] O) (WF.nil (λm o b c=>?_)))))))))
   exact⟨(D4 .u64 i 8),(BD (k+8)),_,_,b.sub (kp [0,2] O),c,s,(CA.refl u x),(PG _ C _),(BK _),E⟩
  refine AQ (WF.nil (λm o b c=>?_))
  exact⟨i,k,_,_,b.sub (kp [0,2] O),c,s,(CA.refl u x),C,J,E⟩
 rintro m o ⟨p,q,X,Y,b,c,D,M,Z,ab,E⟩
 refine Ac ?_ b c
 clear b c o m
 rw[FI] at E
 refine AI (AA O (AA O (HW O K8 cA O ?_)))
 obtain⟨ac,t,E⟩:=bd E
 have ad:=N3 t
 refine N8 O O QH t O (HW O cA OG O (Ai O (AK O (kp [2] O) (Ad (λm o b c=>?_)))))
 cases E
 exact Dx b c O O (V.trans (I.trans M)) ⟨O,(BK _),D⟩
theorem KI (hs:St S L h) {a:Int}(b:IntKind.has .u64 a) {r:Int}(E:EK N a=some r):
 CL Tryz.prog 103 #[.int .u64 a] S h (λv S' h'=>v=vI r∧AH r∧St S' (L) h'):=by
 refine BG (l:=[.int .u64 a]) 6 Tryz.func103 O Tryz.ntmps103 O λB=>?_
 rw[EK] at E
 refine AI (AK O (kp [0] O) (AC (Bq (.inl O) hs (AA O ?_))))
 obtain⟨m,c,E⟩:=bd E
 refine CY O O O Z7 O (λh' o=>NE (St.all h') b c) λg=>?_
 have n:=g
 refine Ck O (AY O (BM (kp [2] O) λp d i=>Ad (λq s j k=>?_)))
 cases E
 exact Dx j k O O i ⟨O,(BK _),d⟩
theorem KP (hs:St S L h) {d:Int}(Y:IntKind.has .u64 d) {b:Int}(A:IntKind.has .u64 b) {c:Int}(F:IntKind.has .u64 c) {r:Int×Int}(E:Eo N d b c=some r):
 CL Tryz.prog 95 #[.int .u64 d,.int .u64 b,.int .u64 c] S h (λv S' h'=>v= .tuple #[.int .u64 r.1,.int .u64 r.2]∧IntKind.has .u64 r.1∧IntKind.has .u64 r.2∧St S' (L) h'):=by
 refine BG (l:=[.int .u64 d,.int .u64 b,.int .u64 c]) 135 Tryz.func95 O Tryz.ntmps95 O λB=>?_
 rw[Eo] at E
 refine AI (AY O (AK O (kp [0,1,2] O) (AC (AI (AA O (BL O (AN (kp [20,0,1,2] O) (AW O E (λc1 E=>?_) (λc1 E=>?_)))))))))
 ·cases E
 refine AQ (AC (AI (AA O (AA O (GQ O (AN (kp [24,0,1,2] O) (AW O E (λc2 E=>?_) (λc2 E=>?_))))))))
 ·cases E
 refine AQ (AC (AI (AA O (BL O (AN (kp [27,0,1,2] O) (AW O E (λc3 E=>?_) (λc3 E=>?_)))))))
 ·refine AC (BZ (.inr ⟨mo,by kernel_rfl⟩) (AA O (AA O ?_)))
  obtain⟨z4,Z,E⟩:=bd E
  have r5:IntKind.has .u64 z4:=MU Z
  refine Rw O O O Z (AA O (AA O ?_))
  obtain⟨z6,ab,E⟩:=bd E
  have r7:IntKind.has .u64 z6:=V3 A ab
  refine YU O O O ab (AY O (AK O (kp [7,6] O) (Ad (λu x k m=>?_))))
  cases E
  exact KH k O m (IK (I1 k (v:=_) O) (IK (I1 k (v:=_) O) KG)) O (CA.refl S h) ⟨O,r5,r7,hs⟩
 refine AQ (AC (Bq (.inl O) hs (AA O ?_)))
 obtain⟨H,ak,E⟩:=bd E
 refine CY O O O aE O (λh' o=>KI (St.all h') F ak) λr9=>?_
 have az:=r9
 refine HW O OG TK O (AY O (BM (kp [8,0,1,2] O) λK ac al=>AI (AA O (AA O ?_))))
 obtain⟨g,ad,E⟩:=bd E
 refine Rv (j:=g) O O O ad (AK O (kp [2,8,0,1] O) (AI (AA O (Iu (j:=32) O O O O (AK O (kp [9,2,8,0,1] O) (AI (AA O (N9 O O O (AK O (kp [10,9,2,8,0,1] O) (AI (AA O (AA O ?_))))))))))))
 obtain⟨n,ae,E⟩:=bd E
 refine Rv (j:=n) O O O ae (AA O (AA O (Lx O O O ?_)))
 obtain⟨p,af,E⟩:=bd E
 refine Iu (j:=p) O O O af (aP O O O (AK O (kp [11,10,9,2,8,1] O) (AI (AA O (AA O ?_)))))
 obtain⟨i,ag,E⟩:=bd E
 refine Rv (j:=i) O O O ag (AK O (kp [12,11,10,9,2,8] O) (AI (AA O (Iu (j:=32) O O O O (AK O (kp [13,12,11,10,9,2,8] O) (AI (AA O (N9 O O O (AK O (kp [14,13,11,10,9,2,8] O) (AI (AA O (AA O ?_))))))))))))
 obtain⟨M,I,E⟩:=bd E
 have am:IntKind.has .u64 M:=MU I
 refine Rw O O O I (AK O (kp [15,14,13,11,10,9,2,8] O) (AI (AA O (AA O (AA O (Hc O O O (Lx O O O (AK O (kp [16,15,14,13,11,10,9,2,8] O) (AC (Am (λa w=>∃(q:Int),IV B S K (135,[]) a w [(14,.int .u64 (G5 .and .u64 (C0 .u64 b i) 4294967295)),(13,.int .u64 (D4 .u64 (C0 .u64 b i) 32)),(11,.int .u64 (G5 .or .u64 (C0 .u64 d n) (D4 .u64 b p))),(10,.int .u64 (G5 .and .u64 (C0 .u64 c g) 4294967295)),(9,.int .u64 (D4 .u64 (C0 .u64 c g) 32)),(2,.int .u64 (C0 .u64 c g)),(8,.int .u64 (IntKind.wrap .u64 H)),(15,.int .u64 q)] (L) λ_ _=>IntKind.has .u64 q∧C6 N d b c H g n p i q=some r) ?_ ?_))))))))))
 ·refine A5 (λn1=>λa w=>∃(s:Int) (y:Int),IV B S K (135,[]) a w [(14,.int .u64 (G5 .and .u64 (C0 .u64 b i) 4294967295)),(13,.int .u64 (D4 .u64 (C0 .u64 b i) 32)),(11,.int .u64 (G5 .or .u64 (C0 .u64 d n) (D4 .u64 b p))),(10,.int .u64 (G5 .and .u64 (C0 .u64 c g) 4294967295)),(9,.int .u64 (D4 .u64 (C0 .u64 c g) 32)),(2,.int .u64 (C0 .u64 c g)),(8,.int .u64 (IntKind.wrap .u64 H)),(15,.int .u64 s),(16,.int .u64 y)] (L) λ_ _=>IntKind.has .u64 s∧IntKind.has .u64 y∧Cj N b c g i (C6 N d b c H g n p i) n1 s y=some r) N ?_ ?_ ?_
  ·intro u x k m
   exact⟨M,(IntKind.wrap .u64 ((G5 .or .u64 (C0 .u64 d n) (D4 .u64 b p))-(IntKind.wrap .u64 (M*(D4 .u64 (C0 .u64 c g) 32))))),_,_,k.sub (kp [14,13,11,10,9,2,8,15,16] O),m,ac,(CA.refl S K),am,(EA _ _),E⟩
  ·rintro u x ⟨_,_,_,_,_,_,_,_,_,_,E⟩
   rw[Cj] at E;cases E
  rintro n1 u x ⟨s,y,a0,a1,k,m,C,Q,an,a2,E⟩
  refine Ac ?_ k m
  clear k m x u
  rw[Cj] at E
  refine AC (AI (AA O (Gf O (AA O (AV 9 78 (.bool ((decide (4294967296≤s))||(decide ((IntKind.wrap .u64 ((IntKind.wrap .u64 (4294967296*y))+(D4 .u64 (C0 .u64 b i) 32)))<(IntKind.wrap .u64 (s*(G5 .and .u64 (C0 .u64 c g) 4294967295))))))) ?_ ?_)))))
  ·cases a3:(decide (4294967296≤s))
   ·exact AB O (AA O (AB O (AA O (AB O (Hc O O O (AB O (AA O (AB O (Hc O O O (AB O (AA O (AB O (JI O O O (AB O (Bf O (AJ O (AU O)))))))))))))))))
   exact Aa O O
  refine AN (kp [78,14,13,11,10,9,2,8,15,16] O) (AW O E (λao E=>?_) (λao E=>?_))
  ·refine AQ (BB (AI (AA O (Lx O O O (AK O (kp [15,14,13,11,10,9,2,8,16] O) (AI (AA O (AA O (JI O O O (AK O (kp [16,15,14,13,11,10,9,2,8] O) (AI (AA O (Gf O (AN (kp [85,16,15,14,13,11,10,9,2,8] O) (AW O E (λap E=>?_) (λap E=>?_))))))))))))))))
   ·refine BC O (λu x k m=>?_)
    exact⟨(IntKind.wrap .u64 (s-1)),_,_,k.sub (kp [14,13,11,10,9,2,8,15] O),m,C,Q,(EA _ _),E⟩
   refine AQ (BO (WF.nil (λu x k m=>?_)))
   exact⟨(IntKind.wrap .u64 (s-1)),(IntKind.wrap .u64 (y+(D4 .u64 (C0 .u64 c g) 32))),_,_,k.sub (kp [14,13,11,10,9,2,8,15,16] O),m,C,Q,(EA _ _),(EA _ _),E⟩
  refine BC O (λu x k m=>?_)
  exact⟨s,_,_,k.sub (kp [14,13,11,10,9,2,8,15] O),m,C,Q,an,E⟩
 rintro u x ⟨q,U,V,k,m,ah,aq,a4,E⟩
 refine Ac ?_ k m
 clear k m x u
 rw[C6] at E
 refine AI (AA O (Hc O O O (AA O (JI O O O (AA O (AA O (Hc O O O (Lx O O O (AK O (kp [17,14,10,9,2,8,15] O) (AI (AA O (AA O ?_))))))))))))
 obtain⟨W,J,E⟩:=bd E
 have ar:IntKind.has .u64 W:=MU J
 refine Rw O O O J (AK O (kp [18,17,14,10,9,2,8,15] O) (AI (AA O (AA O (AA O (Hc O O O (Lx O O O (AK O (kp [16,18,17,14,10,9,2,8,15] O) (AC (Am (λa w=>∃(G:Int),IV B U V (135,[]) a w [(17,.int .u64 (IntKind.wrap .u64 ((IntKind.wrap .u64 ((IntKind.wrap .u64 ((G5 .or .u64 (C0 .u64 d n) (D4 .u64 b p))*4294967296))+(D4 .u64 (C0 .u64 b i) 32)))-(IntKind.wrap .u64 (q*(C0 .u64 c g)))))),(14,.int .u64 (G5 .and .u64 (C0 .u64 b i) 4294967295)),(2,.int .u64 (C0 .u64 c g)),(8,.int .u64 (IntKind.wrap .u64 H)),(15,.int .u64 q),(18,.int .u64 G)] (L) λ_ _=>IntKind.has .u64 G∧EL N d b c H g n p i q G=some r) ?_ ?_))))))))))
 ·refine A5 (λn3=>λa w=>∃(z:Int) (t:Int),IV B U V (135,[]) a w [(17,.int .u64 (IntKind.wrap .u64 ((IntKind.wrap .u64 ((IntKind.wrap .u64 ((G5 .or .u64 (C0 .u64 d n) (D4 .u64 b p))*4294967296))+(D4 .u64 (C0 .u64 b i) 32)))-(IntKind.wrap .u64 (q*(C0 .u64 c g)))))),(14,.int .u64 (G5 .and .u64 (C0 .u64 b i) 4294967295)),(10,.int .u64 (G5 .and .u64 (C0 .u64 c g) 4294967295)),(9,.int .u64 (D4 .u64 (C0 .u64 c g) 32)),(2,.int .u64 (C0 .u64 c g)),(8,.int .u64 (IntKind.wrap .u64 H)),(15,.int .u64 q),(16,.int .u64 z),(18,.int .u64 t)] (L) λ_ _=>IntKind.has .u64 z∧IntKind.has .u64 t∧C5 N b c g i (EL N d b c H g n p i q) n3 z t=some r) N ?_ ?_ ?_
  ·intro u x k m
   exact⟨(IntKind.wrap .u64 ((IntKind.wrap .u64 ((IntKind.wrap .u64 ((IntKind.wrap .u64 ((G5 .or .u64 (C0 .u64 d n) (D4 .u64 b p))*4294967296))+(D4 .u64 (C0 .u64 b i) 32)))-(IntKind.wrap .u64 (q*(C0 .u64 c g)))))-(IntKind.wrap .u64 (W*(D4 .u64 (C0 .u64 c g) 32))))),W,_,_,k.sub (kp [17,14,10,9,2,8,15,16,18] O),m,ah,(CA.refl U V),(EA _ _),ar,E⟩
  ·rintro u x ⟨_,_,_,_,_,_,_,_,_,_,E⟩
   rw[C5] at E;cases E
  rintro n3 u x ⟨z,t,a5,a6,k,m,D,X,a7,au,E⟩
  refine Ac ?_ k m
  clear k m x u
  rw[C5] at E
  refine AC (AI (AA O (Gf O (AA O (AV 9 113 (.bool ((decide (4294967296≤t))||(decide ((IntKind.wrap .u64 ((IntKind.wrap .u64 (4294967296*z))+(G5 .and .u64 (C0 .u64 b i) 4294967295)))<(IntKind.wrap .u64 (t*(G5 .and .u64 (C0 .u64 c g) 4294967295))))))) ?_ ?_)))))
  ·cases a8:(decide (4294967296≤t))
   ·exact AB O (AA O (AB O (AA O (AB O (Hc O O O (AB O (AA O (AB O (Hc O O O (AB O (AA O (AB O (JI O O O (AB O (Bf O (AJ O (AU O)))))))))))))))))
   exact Aa O O
  refine AN (kp [113,17,14,10,9,2,8,15,16,18] O) (AW O E (λav E=>?_) (λav E=>?_))
  ·refine AQ (BB (AI (AA O (Lx O O O (AK O (kp [18,17,14,10,9,2,8,15,16] O) (AI (AA O (AA O (JI O O O (AK O (kp [16,18,17,14,10,9,2,8,15] O) (AI (AA O (Gf O (AN (kp [120,16,18,17,14,10,9,2,8,15] O) (AW O E (λaw E=>?_) (λaw E=>?_))))))))))))))))
   ·refine BC O (λu x k m=>?_)
    exact⟨(IntKind.wrap .u64 (t-1)),_,_,k.sub (kp [17,14,2,8,15,18] O),m,D,X,(EA _ _),E⟩
   refine AQ (BO (WF.nil (λu x k m=>?_)))
   exact⟨(IntKind.wrap .u64 (z+(D4 .u64 (C0 .u64 c g) 32))),(IntKind.wrap .u64 (t-1)),_,_,k.sub (kp [17,14,10,9,2,8,15,16,18] O),m,D,X,(EA _ _),(EA _ _),E⟩
  refine BC O (λu x k m=>?_)
  exact⟨t,_,_,k.sub (kp [17,14,2,8,15,18] O),m,D,X,au,E⟩
 rintro u x ⟨G,a9,ba,k,m,ai,ax,bb,E⟩
 refine Ac ?_ k m
 clear k m x u
 rw[EL] at E
 refine AI (AA O (Hc O O O (AA O (JI O O O (AA O (Hc O O O (AA O (JI O O O (AA O (AA O (Hc O O O (Lx O O O (AA O ?_)))))))))))))
 obtain⟨ay,aj,E⟩:=bd E
 refine Iu (j:=ay) O O O aj (AY O (AK O (kp [7,6] O) (Ad (λu x k m=>?_))))
 cases E
 exact KH k O m (IK (I1 k (v:=_) O) (IK (I1 k (v:=_) O) KG)) O (al.trans (aq.trans ax)) ⟨O,(EA _ _),(PG _ (EA _ _) _),ai⟩
end Go.Proofs.YtblcgjadhemlbaaGreat
