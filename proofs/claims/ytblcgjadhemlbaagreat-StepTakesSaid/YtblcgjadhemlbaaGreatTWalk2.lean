import Derived.Test.YtblcgjadhemlbaaGreatTWalk1
namespace Go.Proofs.YtblcgjadhemlbaaGreat
open Go.RowKit
set_option linter.unusedVariables false
set_option linter.unusedSimpArgs false
set_option maxRecDepth 10000
set_option maxHeartbeats 2000000
variable {N:Nat}{S:Nat→Prop}{L:List HP}{h:Aw}
theorem JC (hs:St S L h) {b:Int}(d:AE b) {a:Int}(g:AE a) {r:Bool}(E:Fo N b a=some r):
 CL Tryz.prog 73 #[vI b,vI a] S h (λv S' h'=>v= .bool r∧St S' (L) h'):=by
 refine BF (l:=[vI b,vI a]) 19 Tryz.func73 O Tryz.ntmps73 O λB=>?_
 rw[Fo] at E
 refine AH (AL O (kp [0,1] O) (AC (Bt (.inl O) hs (AA O ?_))))
 obtain⟨q,j,E⟩:=bd E
 refine A5 O O O JZ O (λh' o=>B0 (St.all h') d j) (AA O ?_)
 obtain⟨k,c,E⟩:=bd E
 refine AV 3 10 (.bool k) ?_ ?_
 ·cases p:q
  ·have c:=GM p c
   cases c
   exact Aa O O
  have c:=GL p c
  refine AB O (AA O (AB O ?_))
  obtain⟨u,m,c⟩:=bd c
  refine A5 O O O JZ O (λh' o=>B0 (St.all h') g m) (AJ O ?_)
  cases c
  exact AU O
 refine AA O (AV 7 18 (.bool (k&&((decide (a≠0))||(decide (b=0))))) ?_ ?_)
 ·cases w:k
  ·exact Aa O O
  refine AB O (AA O (AB O (Bl O (AB O (AA O (AV 3 17 (.bool ((decide (a≠0))||(decide (b=0)))) ?_ ?_))))))
  ·cases x:(decide (a≠0))
   ·exact AB O (AA O (AB O (BK O (AB O (AJ O (AU O))))))
   exact Aa O O
  exact AJ O (AU O)
 refine AY O (BQ (kp [4] O) λy i n=>Ad (λz A s t=>?_))
 cases E
 exact Dr s t O O n ⟨O,i⟩
theorem GP (hs:St S L h) {b:Int}(c:AE b) {a:Int}(d:AE a) {r:Bool}(E:EE N b a=some r):
 CL Tryz.prog 75 #[vI b,vI a] S h (λv S' h'=>v= .bool r∧St S' (L) h'):=by
 refine BF (l:=[vI b,vI a]) 9 Tryz.func75 O Tryz.ntmps75 O λB=>?_
 rw[EE] at E
 refine AH (AL O (kp [0,1] O) (AC (Bt (.inl O) hs (AA O (AA O (Cz O ?_))))))
 obtain⟨p,g,E⟩:=bd E
 refine A5 O O O Hn O (λh' o=>Bs (St.all h') c (iq (n:=0) O) (BG _) g) (AY O (BQ (kp [4] O) λq i j=>Ad (λs t k m=>?_)))
 cases E
 exact Dr k m O O j ⟨O,i⟩
theorem LT (hs:St S L h) {c:Value}{j:AW}(i:Rd S h B8 c j) {a:Int}(k:AE a) {b:Int}(g:AE b) {r:Bool}(E:Hl N j a b=some r):
 CL Tryz.prog 74 #[c,vI a,vI b] S h (λv S' h'=>v= .bool r∧St S' (L) h'):=by
 refine BF (l:=[c,vI a,vI b]) 21 Tryz.func74 O Tryz.ntmps74 O λB=>?_
 rw[Hl] at E
 refine WF.sl (B3 O i (λe=>by cases e) O hs λJ S2 K m z A=>AI 1 (AY O (AG (AZ (kp [3,1,2] O) (AC (Bt (.inl O) m (AA O (BK O (AA O ?_)))))))))
 obtain⟨C,d,E⟩:=bd E
 refine AV 11 20 (.bool C) ?_ ?_
 ·cases y:(decide (b=(-1)))
  ·have d:=GM y d
   refine AB O (AA O (AB O (Af O A BO C0 O λM t=>AB O (Al Bg m.1 O t Fq O λD u=>AB O (Ak O u Ez O λw=>AB O ?_)))))
   obtain⟨n,p,d⟩:=bd d
   refine A5 O O O P2 O (λh' o=>GP (St.all h') g (JY w) p) (AB O (AA O (AV 4 19 (.bool (n&&(decide (b≠a)))) ?_ ?_)))
   ·cases F:n
    ·exact Aa O O
    exact AB O (AA O (AB O (AA O (AB O (Bl O (AB O (AJ O (AU O))))))))
   refine AJ O ?_
   cases d
   exact AU O
  have d:=GL y d
  cases d
  exact Aa O O
 refine AY O (BQ (kp [6] O) λG s x=>Ad (λQ U H I=>?_))
 cases E
 exact Dr H I O O (z.trans x) ⟨O,s⟩
theorem MA (hs:St S L h) {K:Value}{c:AW}(ap:Rd S h B8 K c) {r:Bool}(E:HU N c=some r):
 CL Tryz.prog 49 #[K] S h (λv S' h'=>v= .bool r∧St S' (L) h'):=by
 refine BF (l:=[K]) 122 Tryz.func49 O Tryz.ntmps49 O λB=>?_
 rw[HU] at E
 refine WF.sl (B3 O ap (λe=>by cases e) O hs λq1 S2 h3 bj e5 k6=>AI 1 (AY O (AG (AZ (kp [1] O) (AH (AL O (kp [3,1] O) (AC (AH (Af O k6 BO C0 O λq7 k8=>Al A6 bj.1 O k8 Fq O λv9 bk=>Ak O bk Ez O λd4=>AA O (AM (kp [14,13,12,3,1] O) (Aj (λa w=>∃(aq:Int),IV B S2 h3 (122,[]) a w [(3,vI aq)] (L) λ_ _=>AE aq∧Br N aq=some r) ?_ ?_)))))))))))
 ·refine A3 (λn1=>λa w=>∃(af:Int) (k:Int),IV B S2 h3 (122,[]) a w [(13,vI (↑c.Places.length:Int)),(12,v9),(1,q1),(3,vI af),(14,vI k)] (L) λ_ _=>AE af∧AE k∧Bb N c (Br N) n1 af k=some r) N ?_ ?_ ?_
  ·intro m p g i
   exact⟨0,0,_,_,g.sub (kp [13,12,1,3,14] O),i,bj,(B9.refl S2 h3),(iq (n:=0) O),(iq (n:=0) O),E⟩
  ·rintro m p ⟨_,_,_,_,_,_,_,_,_,_,E⟩
   rw[Bb] at E;cases E
  rintro n1 m p ⟨af,k,ar,ct,g,i,ag,M,bl,cu,E⟩
  refine Ac ?_ g i
  clear g i p m
  rw[Bb] at E
  refine AH (Ao O (AM (kp [15,13,12,1,3,14] O) (AC (AX O E (λcv E=>?_) (λcv E=>?_)))))
  ·refine AO (AC (Aj (λa w=>∃(ah:Int),IV B ar ct (122,[]) a w [(13,vI (↑c.Places.length:Int)),(12,v9),(1,q1),(14,vI k),(3,vI ah)] (L) λ_ _=>AE ah∧CH N k (Bb N c (Br N) n1) ah=some r) ?_ ?_))
   ·refine WF.sl (AI 3 (AA O ?_))
    obtain⟨b,bm,E⟩:=bd E
    refine A9 O O (bk.mono' M) Ez bm O λd5 cw=>B6 A6 ag.1 O cw Jt (λe=>by cases e) O λd6 cx=>AG (Cn OR O ag λau d7 bn Q=>AI 1 (AY O (AG ?_)))
    obtain⟨av,ai,aj,rfl,d8,cy,cz,c0,bo,a4,c1,c2,c3,c4,c5,bp⟩:=B1.ex (cx.mono Q)
    refine HM (vs:=[.string b.Name,vI b.Kind,vI b.Office,vI b.Cap,av,ai,vI b.Num,vI b.Den,vI b.Down,vI b.Delay,vI b.Floor,aj]) (cs':=[.string b.Name,vI b.Kind,vI b.Office,vI b.Cap,av,ai,vI b.Num,vI b.Den,vI b.Down,vI b.Delay,vI b.Floor,aj]) O O O (AF O (AF O (AF O (AF O (AF bo.one (AF a4.one (AF O (AF O (AF O (AF O (AF O (AF bp.one EG)))))))))))) Jt O bn .head O O λd9 d D=>AZ (kp [4,5,13,12,1,3,14] O) (AC (AC (Bt (.inl O) d (AD YT O (AT Bg d O mh O Ae O ?_)))))
    obtain⟨c6,bq,E⟩:=bd E
    refine A5 O O O Hn O (λh' o=>Bs (St.all h') cy (iq (n:=0) O) (iq (n:=3) O) bq) (BZ O (AA O ?_))
    obtain⟨br,s,E⟩:=bd E
    refine AV 5 28 (.bool br) ?_ ?_
    ·cases bs:(!c6)
     ·have s:=GM bs s
      refine AB O (AD KW O (AB O (AT Bg d O mh O Ae O (AB O ?_))))
      obtain⟨ea,bt,s⟩:=bd s
      refine A5 O O O Hn O (λh' o=>Bs (St.all h') cz (iq (n:=0) O) (iq (n:=2) O) bt) (AB O (BZ O (AJ O ?_)))
      cases s
      exact AU O
     have s:=GL bs s
     cases s
     exact Aa O O
    refine AA O ?_
    obtain⟨bu,t,E⟩:=bd E
    refine AV 5 34 (.bool bu) ?_ ?_
    ·cases bv:br
     ·have t:=GM bv t
      refine AB O (AD Rm O (AB O (AT Bg d O mh O Ae O (AB O ?_))))
      obtain⟨eb,bw,t⟩:=bd t
      refine A5 O O O Hn O (λh' o=>Bs (St.all h') c4 (iq (n:=0) O) (iq (n:=240) O) bw) (AB O (BZ O (AJ O ?_)))
      cases t
      exact AU O
     have t:=GL bv t
     cases t
     exact Aa O O
    refine AA O ?_
    obtain⟨bx,u,E⟩:=bd E
    refine AV 5 40 (.bool bx) ?_ ?_
    ·cases bz:bu
     ·have u:=GM bz u
      refine AB O (AD Uj O (AB O (AT Bg d O mh O Ae O (AB O ?_))))
      obtain⟨ec,b0,u⟩:=bd u
      refine A5 O O O JZ O (λh' o=>B0 (St.all h') c0 b0) (AB O (BZ O (AJ O ?_)))
      cases u
      exact AU O
     have u:=GL bz u
     cases u
     exact Aa O O
    refine AA O ?_
    obtain⟨b1,x,E⟩:=bd E
    refine AV 5 46 (.bool b1) ?_ ?_
    ·cases b2:bx
     ·have x:=GM b2 x
      refine AB O (AD Wp O (AB O (AT Bg d O mh O Ae O (AB O ?_))))
      obtain⟨ed,b3,x⟩:=bd x
      refine A5 O O O JZ O (λh' o=>B0 (St.all h') c5 b3) (AB O (BZ O (AJ O ?_)))
      cases x
      exact AU O
     have x:=GL b2 x
     cases x
     exact Aa O O
    refine AA O ?_
    obtain⟨aw,y,E⟩:=bd E
    refine AV 5 52 (.bool aw) ?_ ?_
    ·cases b4:b1
     ·have y:=GM b4 y
      refine AB O (AD YS O (AB O (AT Bg d O mh O IQ O (AB O ?_))))
      obtain⟨ee,b5,y⟩:=bd y
      refine A5 O O O P3 O (λh' o=>GO (St.all h') ((bo.mono' D).mono' (o.all d.1)) b5) (AB O (BZ O (AJ O ?_)))
      cases y
      exact AU O
     have y:=GL b4 y
     cases y
     exact Aa O O
    refine AA O (AV 8 61 (.bool (aw||(decide ((↑b.Start.length:Int)≠(↑c.Owners.length:Int))))) ?_ ?_)
    ·cases ef:aw
     ·exact AB O (AD Ro O (AB O (AT Bg d O mh O BX O (AB O (Ak O (a4.mono' D) BR O λeg=>AB O (Af O (k6.mono (M.trans (Q.trans D))) Dq HT O λeh c7=>AB O (Al Bg d.1 O c7 KI O λei c8=>AB O (Ak O c8 Jx O λej=>AB O (Bl O (AJ O (AU O)))))))))))
     exact Aa O O
    refine AA O ?_
    obtain⟨b6,z,E⟩:=bd E
    refine AV 7 69 (.bool b6) ?_ ?_
    ·cases b7:(aw||(decide ((↑b.Start.length:Int)≠(↑c.Owners.length:Int))))
     ·have z:=GM b7 z
      refine AB O (AD Rn O (AB O (AT Bg d O mh O Ae O (AB O (AD K3 O (AB O (AT Bg d O mh O Ae O (AB O ?_))))))))
      obtain⟨ek,b8,z⟩:=bd z
      refine A5 O O O XN O (λh' o=>JC (St.all h') c1 c2 b8) (AB O (BZ O (AJ O ?_)))
      cases z
      exact AU O
     have z:=GL b7 z
     cases z
     exact Aa O O
    refine AA O ?_
    obtain⟨c9,A,E⟩:=bd E
    refine AV 7 77 (.bool c9) ?_ ?_
    ·cases b9:b6
     ·have A:=GM b9 A
      refine AB O (B6 Bg d.1 O (k6.mono (M.trans (Q.trans D))) G0 (λe=>by cases e) O λdb ca=>AB O (AA O (AB O (AD PN O (AB O (AT Bg d O mh O Ae O (AB O ?_)))))))
      obtain⟨dc,a5,A⟩:=bd A
      refine A5 O O O ZX O (λh' o=>LT (St.all h') (ca.mono (o.all d.1)) cu c3 a5) (AB O (BZ O (AJ O ?_)))
      cases A
      exact AU O
     have A:=GL b9 A
     cases A
     exact Aa O O
    refine BQ (kp [77,5,13,12,1,3,14] O) λak X F=>AX O E (λcb E=>?_) (λcb E=>?_)
    ·refine AH (AL O (kp [2] O) (Ad (λm p g i=>?_)))
     have a6:=X.drop .head
     cases E
     exact Dr g i O O (e5.trans (M.trans (Q.trans (D.trans F)))) ⟨O,a6⟩
    refine AO (AC (AH (AD Ro O (AT A6 X O mh O BX O ?_))))
    have ax:=a4.mono' (D.trans F)
    refine Ak O ax BR O λdd=>AA O (AM (kp [81,80,79,5,13,12,1,3,14] O) (Aj (λa w=>∃(G:Int),IV B ar ak (122,[]) a w [(5,vP au 0),(13,vI (↑c.Places.length:Int)),(12,v9),(1,q1),(14,vI k),(3,vI G)] (Bx au 56 [.string b.Name,vI b.Kind,vI b.Office,vI b.Cap,av,ai,vI b.Num,vI b.Den,vI b.Down,vI b.Delay,vI b.Floor,aj]::L) λ_ _=>AE G∧Dg N c b (CH N k (Bb N c (Br N) n1)) G=some r) ?_ ?_))
    ·refine A3 (λn4=>λa w=>∃(J:Int) (U:Int),IV B ar ak (122,[]) a w [(80,vI (↑b.Start.length:Int)),(79,ai),(5,vP au 0),(13,vI (↑c.Places.length:Int)),(12,v9),(1,q1),(14,vI k),(3,vI J),(81,vI U)] (Bx au 56 [.string b.Name,vI b.Kind,vI b.Office,vI b.Cap,av,ai,vI b.Num,vI b.Den,vI b.Down,vI b.Delay,vI b.Floor,aj]::L) λ_ _=>AE J∧AE U∧Cb N b (Dg N c b (CH N k (Bb N c (Br N) n1))) n4 J U=some r) N ?_ ?_ ?_
     ·intro m p g i
      exact⟨af,0,_,_,g.sub (kp [80,79,5,13,12,1,14,3,81] O),i,X,(B9.refl ar ak),bl,(iq (n:=0) O),E⟩
     ·rintro m p ⟨_,_,_,_,_,_,_,_,_,_,E⟩
      rw[Cb] at E;cases E
     rintro n4 m p ⟨J,U,de,df,g,i,Y,ac,cc,dg,E⟩
     refine Ac ?_ g i
     clear g i p m
     rw[Cb] at E
     refine AH (Ao O (AM (kp [82,80,79,5,13,12,1,14,3,81] O) (AC (AX O E (λcd E=>?_) (λcd E=>?_)))))
     ·refine AO (AC (A8 (AH ?_)))
      obtain⟨ce,a7,E⟩:=bd E
      refine A9 O O (ax.mono' ac) BR a7 O λdh cf=>Ag A6 Y.1 O cf Ae O λcg=>AL O (kp [7,80,79,5,13,12,1,14,3,81] O) (AC (AC (Bt (.inl O) Y (AA O ?_))))
      obtain⟨di,a8,E⟩:=bd E
      refine A5 O O O JZ O (λh' o=>B0 (St.all h') cg a8) (BZ O (BQ (kp [87,7,80,79,5,13,12,1,14,3,81] O) λdj am ay=>AX O E (λch E=>?_) (λch E=>?_)))
      ·refine AH (AL O (kp [2] O) (Ad (λm p g i=>?_)))
       have a9:=am.drop .head
       cases E
       exact Dr g i O O (e5.trans (M.trans (Q.trans (D.trans (F.trans (ac.trans ay)))))) ⟨O,a9⟩
      refine AO (BY (.inl O) (AA O (AA O (Ai O (AL O (kp [3,80,79,5,13,12,1,14,81] O) (BP (BY (.inl O) (Ai O (AA O (AM (kp [81,3,80,79,5,13,12,1,14] O) (WF.nil (λm p g i=>?_))))))))))))
      exact⟨(BM (J+ce)),(BM (U+1)),_,_,g.sub (kp [80,79,5,13,12,1,14,3,81] O),i,am,(ac.trans ay),(BG _),(BG _),E⟩
     refine BA O (λm p g i=>?_)
     exact⟨J,_,_,g.sub (kp [5,13,12,1,14,3] O),i,Y,ac,cc,E⟩
    rintro m p ⟨G,az,a0,g,i,an,ad,ci,E⟩
    refine Ac ?_ g i
    clear g i p m
    rw[Dg] at E
    refine AH (AL O (kp [8,5,13,12,1,14,3] O) (AH (AD Wo O (AT A6 an O mh O cS O ?_))))
    have a1:=bp.mono' (D.trans (F.trans ad))
    refine Ak O a1 ZG O λdk=>AA O (AM (kp [95,94,93,8,13,12,1,14,3] O) (A8 (A3 (λn5=>λa w=>∃(H:Int) (V:Int),IV B az a0 (122,[]) a w [(94,vI (↑b.Rain.length:Int)),(93,aj),(13,vI (↑c.Places.length:Int)),(12,v9),(1,q1),(14,vI k),(3,vI G),(8,vI H),(95,vI V)] (L) λ_ _=>AE H∧AE V∧Ca N c b G (CH N k (Bb N c (Br N) n1)) n5 H V=some r) N ?_ ?_ ?_)))
    ·intro m p g i
     have ba:=an.drop .head
     exact⟨(-1),0,_,_,g.sub (kp [94,93,13,12,1,14,3,8,95] O),i,ba,(B9.refl az a0),(iq (n:=(-1)) O),(iq (n:=0) O),E⟩
    ·rintro m p ⟨_,_,_,_,_,_,_,_,_,_,E⟩
     rw[Ca] at E;cases E
    rintro n5 m p ⟨H,V,dl,dm,g,i,Z,W,dn,dp,E⟩
    refine Ac ?_ g i
    clear g i p m
    rw[Ca] at E
    refine AH (Ao O (AM (kp [96,94,93,13,12,1,14,3,8,95] O) (AC (AX O E (λcj E=>?_) (λcj E=>?_)))))
    ·refine AO (AC (A8 (WF.sl (AI 2 ?_))))
     obtain⟨C,bb,E⟩:=bd E
     refine A9 O O (a1.mono' W) ZG bb O λdq ck=>B6 A6 Z.1 O ck Vu (λe=>by cases e) O λdr cl=>AG (Cn Zj O Z λds dt bc ae=>?_)
     obtain⟨rfl,⟨cm,cn⟩⟩:=KG.ex (cl.mono ae)
     refine DW (vs:=[vI C.Index,vI C.Area]) O O O O Vu O bc .head O λdu I ao=>AZ (kp [10,94,93,13,12,1,14,3,8,95] O) (AC (AC (Bt (.inl O) I (AD Px O (AT Bg I O mh O Ae O (AA O (Fv O (AA O (AV 6 109 (.bool ((decide (C.Index≤H))||(decide (c.Cells≤C.Index)))) ?_ ?_)))))))))
     ·cases dv:(decide (C.Index≤H))
      ·exact AB O (AD Px O (AB O (AT Bg I O mh O Ae O (AB O (Af O (k6.mono (M.trans (Q.trans (D.trans (F.trans (ad.trans (W.trans (ae.trans ao)))))))) Kv Ru O λdw co=>AB O (Ag Bg I.1 O co Ae O λdx=>AB O (Gb O (AJ O (AU O)))))))))
      exact Aa O O
     refine AA O ?_
     obtain⟨cp,j,E⟩:=bd E
     refine AV 5 115 (.bool cp) ?_ ?_
     ·cases a2:((decide (C.Index≤H))||(decide (c.Cells≤C.Index)))
      ·have j:=GM a2 j
       refine AB O (AD Wr O (AB O (AT Bg I O mh O Ae O (AB O ?_))))
       obtain⟨dy,be,j⟩:=bd j
       refine A5 O O O JZ O (λh' o=>B0 (St.all h') cn be) (AB O (BZ O (AJ O ?_)))
       cases j
       exact AU O
      have j:=GL a2 j
      cases j
      exact Aa O O
     refine BQ (kp [115,10,94,93,13,12,1,14,3,95] O) λdz ab a3=>AX O E (λcq E=>?_) (λcq E=>?_)
     ·refine AH (AL O (kp [2] O) (Ad (λm p g i=>?_)))
      have bf:=ab.drop .head
      cases E
      exact Dr g i O O (e5.trans (M.trans (Q.trans (D.trans (F.trans (ad.trans (W.trans (ae.trans (ao.trans a3))))))))) ⟨O,bf⟩
     refine AO (BY (.inl O) (AD Px O (AT A6 ab O mh O Ae O (AL O (kp [8,94,93,13,12,1,14,3,95] O) (BP (BY (.inl O) (Ai O (AA O (AM (kp [95,8,94,93,13,12,1,14,3] O) (WF.nil (λm p g i=>?_)))))))))))
     have bg:=ab.drop .head
     exact⟨C.Index,(BM (V+1)),_,_,g.sub (kp [94,93,13,12,1,14,3,8,95] O),i,bg,(W.trans (ae.trans (ao.trans a3))),cm,(BG _),E⟩
    refine J8 O (WF.nil (λm p g i=>?_))
    exact⟨G,_,_,g.sub (kp [13,12,1,14,3] O),i,Z,(Q.trans (D.trans (F.trans (ad.trans W)))),ci,E⟩
   rintro m p ⟨ah,d0,d1,g,i,bh,cr,da,E⟩
   refine Ac ?_ g i
   clear g i p m
   rw[CH] at E
   refine BY (.inl O) (Ai O (AA O (AM (kp [14,13,12,1,3] O) (WF.nil (λm p g i=>?_)))))
   exact⟨ah,(BM (k+1)),_,_,g.sub (kp [13,12,1,3,14] O),i,bh,(M.trans cr),da,(BG _),E⟩
  refine BA O (λm p g i=>?_)
  exact⟨af,_,_,g.sub (kp [3] O),i,ag,M,bl,E⟩
 rintro m p ⟨aq,d2,d3,g,i,bi,cs,el,E⟩
 refine Ac ?_ g i
 clear g i p m
 rw[Br] at E
 refine AH (AA O (Fv O (AL O (kp [2] O) (Ad (λm p g i=>?_)))))
 cases E
 exact Dr g i O O (e5.trans cs) ⟨O,bi⟩
theorem Oq (hs:St S L h) {d:Int}(t:AE d) {c:Value}{s:(Int→Option Bool)}(u:Rd S h (AN.fn Tryz.prog (λx:Int=>([vI x]:List Value)) (λx:Int=>AE x) (λy:Bool=> .bool y) (λy:Bool=>True)) c s) {r:Int}(E:Jn N d s=some r):
 CL Tryz.prog 110 #[vI d,c] S h (λv S' h'=>v=vI r∧AE r∧St S' (L) h'):=by
 refine BF (l:=[vI d,c]) 26 Tryz.func110 O Tryz.ntmps110 O λB=>?_
 rw[Jn] at E
 obtain⟨J,K,rfl,M,Q⟩:=u.fn
 refine AH (AL O (kp [0,1] O) (AH (AA O (AY O (AL O (kp [6,5,1] O) (AC (Aj (λa w=>∃(I:Int),IV B S h (26,[]) a w [(5,vI I)] (L) λ_ _=>AE I∧Hd N I=some r) ?_ ?_)))))))
 ·refine A3 (λY=>λa w=>∃(g:Int) (i:Int),IV B S h (26,[]) a w [(1,(.func (.func J) #[] K)),(5,vI g),(6,vI i)] (L) λ_ _=>AE g∧AE i∧E9 N s (Hd N) Y g i=some r) N ?_ ?_ ?_
  ·intro z A k m
   exact⟨0,d,_,_,k.sub (kp [1,5,6] O),m,hs,(B9.refl S h),(iq (n:=0) O),t,E⟩
  ·rintro z A ⟨_,_,_,_,_,_,_,_,_,_,E⟩
   rw[E9] at E;cases E
  rintro Y z A ⟨g,i,Z,ab,k,m,p,q,D,U,E⟩
  refine Ac ?_ k m
  clear k m A z
  rw[E9] at E
  refine AC (AH (AA O (AA O (Ao O (AM (kp [11,1,5,6] O) (AX O E (λV E=>?_) (λV E=>?_)))))))
  ·refine AO (A8 (AH (AA O (AA O (Ai O (HL O OC TW O (Ii (j:=1) O O O O (HL O TW OC O (AL O (kp [7,1,5,6] O) (AC (Bt (.inl O) p (AA O (AA O ?_)))))))))))))
   obtain⟨ac,F,E⟩:=bd E
   refine A5 O O O M O (λh' o=>Q _ h' (λb hb=>Nat.lt_of_lt_of_le (p.1 b (q.sub b hb)) o.siz) (λb hb=>(o.same b (p.1 b (q.sub b hb))).trans (q.same b hb)) [] (St.all h') _ _ (BG _) F) (BZ O (BQ (kp [21,7,1,5,6] O) λad C G=>AX O E (λW E=>?_) (λW E=>?_)))
   ·refine BY (.inl O) (AA O (Ai O (AL O (kp [5,1,6] O) (BP (WF.nil (λz A k m=>?_))))))
    exact⟨(BM ((BM (Du .u64 (IntKind.wrap .u64 (BM (g+i))) 1))+1)),i,_,_,k.sub (kp [1,5,6] O),m,C,(q.trans G),(BG _),U,E⟩
   refine BY (.inl O) (AA O (AL O (kp [6,1,5] O) (BP (WF.nil (λz A k m=>?_)))))
   exact⟨g,(BM (Du .u64 (IntKind.wrap .u64 (BM (g+i))) 1)),_,_,k.sub (kp [1,5,6] O),m,C,(q.trans G),D,(BG _),E⟩
  refine BA O (λz A k m=>?_)
  exact⟨g,_,_,k.sub (kp [5] O),m,p,q,D,E⟩
 rintro z A ⟨I,ae,af,k,m,H,X,r6,E⟩
 refine Ac ?_ k m
 clear k m A z
 rw[Hd] at E
 refine AH (AA O (AL O (kp [4] O) (Ad (λz A k m=>?_))))
 cases E
 exact Dr k m O O X ⟨O,r6,H⟩
theorem Nw (hs:St S L h) {c:Int}(i:AE c) {a:Value}{c1_:(List BT)}(d:Pt S h (AN.sl Bu) a c1_) {b:Value}{c2_:Int}(g:Pt S h AN.int b c2_) {r:Bool}(E:G5 N c1_ c2_ c=some r):
 CL Tryz.prog 111 #[vI c,a,b] S h (λv S' h'=>v= .bool r∧St S' (L) h'):=by
 refine BF (l:=[vI c,a,b]) 12 Tryz.func111 O Tryz.ntmps111 O λB=>?_
 rw[G5] at E
 refine AH (AL O (kp [0,1,2] O) (AC (BY (.inr ⟨mo,by kernel_rfl⟩) (Al A6 hs.1 O d IQ O λv1 k=>AA O ?_))))
 obtain⟨q,j,E⟩:=bd E
 refine A9 O O k H5 j O λs m=>Af O m Ks I3 O λt n=>Ag A6 hs.1 O n Ae O λu=>Ag A6 hs.1 O g Ae O λw=>Bk O (AL O (kp [4] O) (Ad (λx y o p=>?_)))
 cases E
 exact Dr o p O O (B9.refl S h) ⟨O,hs⟩
theorem KK (hs:St S L h) {a:Int}(c:IntKind.has .u64 a) {b:Int}(d:IntKind.has .u64 b) {r:Int×Int}(E:GJ N a b=some r):
 CL Tryz.prog 94 #[.int .u64 a,.int .u64 b] S h (λv S' h'=>v= .tuple #[.int .u64 r.1,.int .u64 r.2]∧IntKind.has .u64 r.1∧IntKind.has .u64 r.2∧St S' (L) h'):=by
 refine BF (l:=[.int .u64 a,.int .u64 b]) 51 Tryz.func94 O Tryz.ntmps94 O λB=>?_
 rw[GJ] at E
 refine AH (AY O (AL O (kp [0,1] O) (AH (AA O (N5 O O O (AL O (kp [6,0,1] O) (AH (AA O (Ii (j:=32) O O O O (AL O (kp [7,6,0,1] O) (AH (AA O (N5 O O O (AL O (kp [8,7,6,0,1] O) (AH (AA O (Ii (j:=32) O O O O (AL O (kp [9,8,7,6,0,1] O) (AH (AA O (AA O (HV O O O (AL O (kp [10,9,8,7,6,0,1] O) (AH (AA O (AA O (HV O O O (AA O (Ii (j:=32) O O O O ?_)))))))))))))))))))))))))))))
 refine I9 O O O (AL O (kp [11,9,7,6,0,1] O) (AH (AA O (N5 O O O (AL O (kp [12,11,9,7,6,0,1] O) (AH (AA O (Ii (j:=32) O O O O (AL O (kp [13,12,9,7,6,0,1] O) (AH (AA O (AA O (AA O (HV O O O (I9 O O O (AL O (kp [12,13,9,7,0,1] O) (AH (AA O (AA O (HV O O O (AA O (I9 O O O (AA O (Ii (j:=32) O O O O (I9 O O O (AL O (kp [4,0,1] O) (AH (AA O (AA O ?_)))))))))))))))))))))))))))))
 refine HV O O O (AL O (kp [5,4] O) (Ad (λk m g i=>?_)))
 cases E
 exact KD g O i (IF (Ir g (v:=_) O) (IF (Ir g (v:=_) O) KC)) O (B9.refl S h) ⟨O,(D1 _ _),(D1 _ _),hs⟩
theorem M7 (hs:St S L h) {d:Int}(g:IntKind.has .u64 d) {r:Int}(E:HJ N d=some r):
 CL Tryz.prog 112 #[.int .u64 d] S h (λv S' h'=>v=vI r∧AE r∧St S' (L) h'):=by
 refine BF (l:=[.int .u64 d]) 25 Tryz.func112 O Tryz.ntmps112 O λB=>?_
 rw[HJ] at E
 refine AH (AL O (kp [2,0] O) (AC (AH (AA O (Gb O (AM (kp [4,2,0] O) (Ga (λa w=>∃(y:Int) (z:Int),IV B S h (25,[]) a w [(0,.int .u64 y),(2,vI z)] (L) λ_ _=>IntKind.has .u64 y∧AE z∧FC N y z=some r) ?_ ?_)))))))
 ·refine AX O E (λU E=>?_) (λU E=>?_)
  ·refine AH (AA O (Ii (j:=32) O O O O (AL O (kp [0] O) (BY (.inl O) (AL O (kp [2,0] O) (WF.nil (λm o b c=>?_)))))))
   exact⟨(Du .u64 d 32),32,_,_,b.sub (kp [0,2] O),c,hs,(B9.refl S h),(PF _ g _),(iq (n:=32) O),E⟩
  refine AO (WF.nil (λm o b c=>?_))
  exact⟨d,0,_,_,b.sub (kp [0,2] O),c,hs,(B9.refl S h),g,(iq (n:=0) O),E⟩
 rintro m o ⟨y,z,F,G,b,c,A,V,Q,W,E⟩
 refine Ac ?_ b c
 clear b c o m
 rw[FC] at E
 refine AC (AH (AA O (Gb O (AM (kp [8,0,2] O) (Ga (λa w=>∃(i:Int) (k:Int),IV B F G (25,[]) a w [(0,.int .u64 i),(2,vI k)] (L) λ_ _=>IntKind.has .u64 i∧AE k∧FB N i k=some r) ?_ ?_)))))
 ·refine AX O E (λH E=>?_) (λH E=>?_)
  ·refine AH (AA O (Ii (j:=16) O O O O (AL O (kp [0,2] O) (BY (.inl O) (AA O (Ai O (AL O (kp [2,0] O) (WF.nil (λm o b c=>?_)))))))))
   exact⟨(Du .u64 y 16),(BM (z+16)),_,_,b.sub (kp [0,2] O),c,A,(B9.refl F G),(PF _ Q _),(BG _),E⟩
  refine AO (WF.nil (λm o b c=>?_))
  exact⟨y,z,_,_,b.sub (kp [0,2] O),c,A,(B9.refl F G),Q,W,E⟩
 rintro m o ⟨i,k,u,x,b,c,s,I,C,J,E⟩
 refine Ac ?_ b c
 clear b c o m
 rw[FB] at E
 refine AC (AH (AA O (Gb O (AM (kp [14,0,2] O) (Ga (λa w=>∃(p:Int) (q:Int),IV B u x (25,[]) a w [(0,.int .u64 p),(2,vI q)] (L) λ_ _=>IntKind.has .u64 p∧AE q∧FA N p q=some r) ?_ ?_)))))
 ·refine AX O E (λK E=>?_) (λK E=>?_)
  ·refine AH (AA O (Ii (j:=8) O O O O (AL O (kp [0,2] O) (BY (.inl O) (AA O (Ai O (AL O (kp [2,0] O) (WF.nil (λm o b c=>?_)))))))))
   exact⟨(Du .u64 i 8),(BM (k+8)),_,_,b.sub (kp [0,2] O),c,s,(B9.refl u x),(PF _ C _),(BG _),E⟩
  refine AO (WF.nil (λm o b c=>?_))
  exact⟨i,k,_,_,b.sub (kp [0,2] O),c,s,(B9.refl u x),C,J,E⟩
 rintro m o ⟨p,q,X,Y,b,c,D,M,Z,ab,E⟩
 refine Ac ?_ b c
 clear b c o m
 rw[FA] at E
 refine AH (AA O (AA O (HL O K8 cQ O ?_)))
 obtain⟨ac,t,E⟩:=bd E
 have ad:=Nz t
 refine N4 O O QG t O (HL O cQ OC O (Ai O (AL O (kp [2] O) (Ad (λm o b c=>?_)))))
 cases E
 exact Dr b c O O (V.trans (I.trans M)) ⟨O,(BG _),D⟩
theorem KE (hs:St S L h) {a:Int}(b:IntKind.has .u64 a) {r:Int}(E:EA N a=some r):
 CL Tryz.prog 103 #[.int .u64 a] S h (λv S' h'=>v=vI r∧AE r∧St S' (L) h'):=by
 refine BF (l:=[.int .u64 a]) 6 Tryz.func103 O Tryz.ntmps103 O λB=>?_
 rw[EA] at E
 refine AH (AL O (kp [0] O) (AC (Bt (.inl O) hs (AA O ?_))))
 obtain⟨m,c,E⟩:=bd E
 refine CX O O O aP O (λh' o=>M7 (St.all h') b c) λg=>?_
 have n:=g
 refine Cz O (AY O (BQ (kp [2] O) λp d i=>Ad (λq s j k=>?_)))
 cases E
 exact Dr j k O O i ⟨O,(BG _),d⟩
theorem KL (hs:St S L h) {d:Int}(Y:IntKind.has .u64 d) {b:Int}(A:IntKind.has .u64 b) {c:Int}(F:IntKind.has .u64 c) {r:Int×Int}(E:Ee N d b c=some r):
 CL Tryz.prog 95 #[.int .u64 d,.int .u64 b,.int .u64 c] S h (λv S' h'=>v= .tuple #[.int .u64 r.1,.int .u64 r.2]∧IntKind.has .u64 r.1∧IntKind.has .u64 r.2∧St S' (L) h'):=by
 refine BF (l:=[.int .u64 d,.int .u64 b,.int .u64 c]) 135 Tryz.func95 O Tryz.ntmps95 O λB=>?_
 rw[Ee] at E
 refine AH (AY O (AL O (kp [0,1,2] O) (AC (AH (AA O (BK O (AM (kp [20,0,1,2] O) (AX O E (λc1 E=>?_) (λc1 E=>?_)))))))))
 ·cases E
 refine AO (AC (AH (AA O (AA O (Fv O (AM (kp [24,0,1,2] O) (AX O E (λc2 E=>?_) (λc2 E=>?_))))))))
 ·cases E
 refine AO (AC (AH (AA O (BK O (AM (kp [27,0,1,2] O) (AX O E (λc3 E=>?_) (λc3 E=>?_)))))))
 ·refine AC (BY (.inr ⟨mo,by kernel_rfl⟩) (AA O (AA O ?_)))
  obtain⟨z4,Z,E⟩:=bd E
  have r5:IntKind.has .u64 z4:=MN Z
  refine R6 O O O Z (AA O (AA O ?_))
  obtain⟨z6,ab,E⟩:=bd E
  have r7:IntKind.has .u64 z6:=WN A ab
  refine Yn O O O ab (AY O (AL O (kp [7,6] O) (Ad (λu x k m=>?_))))
  cases E
  exact KD k O m (IF (Ir k (v:=_) O) (IF (Ir k (v:=_) O) KC)) O (B9.refl S h) ⟨O,r5,r7,hs⟩
 refine AO (AC (Bt (.inl O) hs (AA O ?_)))
 obtain⟨H,ak,E⟩:=bd E
 refine CX O O O aW O (λh' o=>KE (St.all h') F ak) λr9=>?_
 have az:=r9
 refine HL O OC TW O (AY O (BQ (kp [8,0,1,2] O) λK ac al=>AH (AA O (AA O ?_))))
 obtain⟨g,ad,E⟩:=bd E
 refine R5 (j:=g) O O O ad (AL O (kp [2,8,0,1] O) (AH (AA O (Ii (j:=32) O O O O (AL O (kp [9,2,8,0,1] O) (AH (AA O (N5 O O O (AL O (kp [10,9,2,8,0,1] O) (AH (AA O (AA O ?_))))))))))))
 obtain⟨n,ae,E⟩:=bd E
 refine R5 (j:=n) O O O ae (AA O (AA O (Lt O O O ?_)))
 obtain⟨p,af,E⟩:=bd E
 refine Ii (j:=p) O O O af (bH O O O (AL O (kp [11,10,9,2,8,1] O) (AH (AA O (AA O ?_)))))
 obtain⟨i,ag,E⟩:=bd E
 refine R5 (j:=i) O O O ag (AL O (kp [12,11,10,9,2,8] O) (AH (AA O (Ii (j:=32) O O O O (AL O (kp [13,12,11,10,9,2,8] O) (AH (AA O (N5 O O O (AL O (kp [14,13,11,10,9,2,8] O) (AH (AA O (AA O ?_))))))))))))
 obtain⟨M,I,E⟩:=bd E
 have am:IntKind.has .u64 M:=MN I
 refine R6 O O O I (AL O (kp [15,14,13,11,10,9,2,8] O) (AH (AA O (AA O (AA O (HV O O O (Lt O O O (AL O (kp [16,15,14,13,11,10,9,2,8] O) (AC (Aj (λa w=>∃(q:Int),IV B S K (135,[]) a w [(14,.int .u64 (Gz .and .u64 (C2 .u64 b i) 4294967295)),(13,.int .u64 (Du .u64 (C2 .u64 b i) 32)),(11,.int .u64 (Gz .or .u64 (C2 .u64 d n) (Du .u64 b p))),(10,.int .u64 (Gz .and .u64 (C2 .u64 c g) 4294967295)),(9,.int .u64 (Du .u64 (C2 .u64 c g) 32)),(2,.int .u64 (C2 .u64 c g)),(8,.int .u64 (IntKind.wrap .u64 H)),(15,.int .u64 q)] (L) λ_ _=>IntKind.has .u64 q∧C8 N d b c H g n p i q=some r) ?_ ?_))))))))))
 ·refine A3 (λn1=>λa w=>∃(s:Int) (y:Int),IV B S K (135,[]) a w [(14,.int .u64 (Gz .and .u64 (C2 .u64 b i) 4294967295)),(13,.int .u64 (Du .u64 (C2 .u64 b i) 32)),(11,.int .u64 (Gz .or .u64 (C2 .u64 d n) (Du .u64 b p))),(10,.int .u64 (Gz .and .u64 (C2 .u64 c g) 4294967295)),(9,.int .u64 (Du .u64 (C2 .u64 c g) 32)),(2,.int .u64 (C2 .u64 c g)),(8,.int .u64 (IntKind.wrap .u64 H)),(15,.int .u64 s),(16,.int .u64 y)] (L) λ_ _=>IntKind.has .u64 s∧IntKind.has .u64 y∧Ci N b c g i (C8 N d b c H g n p i) n1 s y=some r) N ?_ ?_ ?_
  ·intro u x k m
   exact⟨M,(IntKind.wrap .u64 ((Gz .or .u64 (C2 .u64 d n) (Du .u64 b p))-(IntKind.wrap .u64 (M*(Du .u64 (C2 .u64 c g) 32))))),_,_,k.sub (kp [14,13,11,10,9,2,8,15,16] O),m,ac,(B9.refl S K),am,(D1 _ _),E⟩
  ·rintro u x ⟨_,_,_,_,_,_,_,_,_,_,E⟩
   rw[Ci] at E;cases E
  rintro n1 u x ⟨s,y,a0,a1,k,m,C,Q,an,a2,E⟩
  refine Ac ?_ k m
  clear k m x u
  rw[Ci] at E
  refine AC (AH (AA O (Gb O (AA O (AV 9 78 (.bool ((decide (4294967296≤s))||(decide ((IntKind.wrap .u64 ((IntKind.wrap .u64 (4294967296*y))+(Du .u64 (C2 .u64 b i) 32)))<(IntKind.wrap .u64 (s*(Gz .and .u64 (C2 .u64 c g) 4294967295))))))) ?_ ?_)))))
  ·cases a3:(decide (4294967296≤s))
   ·exact AB O (AA O (AB O (AA O (AB O (HV O O O (AB O (AA O (AB O (HV O O O (AB O (AA O (AB O (I9 O O O (AB O (Bk O (AJ O (AU O)))))))))))))))))
   exact Aa O O
  refine AM (kp [78,14,13,11,10,9,2,8,15,16] O) (AX O E (λao E=>?_) (λao E=>?_))
  ·refine AO (A8 (AH (AA O (Lt O O O (AL O (kp [15,14,13,11,10,9,2,8,16] O) (AH (AA O (AA O (I9 O O O (AL O (kp [16,15,14,13,11,10,9,2,8] O) (AH (AA O (Gb O (AM (kp [85,16,15,14,13,11,10,9,2,8] O) (AX O E (λap E=>?_) (λap E=>?_))))))))))))))))
   ·refine BA O (λu x k m=>?_)
    exact⟨(IntKind.wrap .u64 (s-1)),_,_,k.sub (kp [14,13,11,10,9,2,8,15] O),m,C,Q,(D1 _ _),E⟩
   refine AO (BP (WF.nil (λu x k m=>?_)))
   exact⟨(IntKind.wrap .u64 (s-1)),(IntKind.wrap .u64 (y+(Du .u64 (C2 .u64 c g) 32))),_,_,k.sub (kp [14,13,11,10,9,2,8,15,16] O),m,C,Q,(D1 _ _),(D1 _ _),E⟩
  refine BA O (λu x k m=>?_)
  exact⟨s,_,_,k.sub (kp [14,13,11,10,9,2,8,15] O),m,C,Q,an,E⟩
 rintro u x ⟨q,U,V,k,m,ah,aq,a4,E⟩
 refine Ac ?_ k m
 clear k m x u
 rw[C8] at E
 refine AH (AA O (HV O O O (AA O (I9 O O O (AA O (AA O (HV O O O (Lt O O O (AL O (kp [17,14,10,9,2,8,15] O) (AH (AA O (AA O ?_))))))))))))
 obtain⟨W,J,E⟩:=bd E
 have ar:IntKind.has .u64 W:=MN J
 refine R6 O O O J (AL O (kp [18,17,14,10,9,2,8,15] O) (AH (AA O (AA O (AA O (HV O O O (Lt O O O (AL O (kp [16,18,17,14,10,9,2,8,15] O) (AC (Aj (λa w=>∃(G:Int),IV B U V (135,[]) a w [(17,.int .u64 (IntKind.wrap .u64 ((IntKind.wrap .u64 ((IntKind.wrap .u64 ((Gz .or .u64 (C2 .u64 d n) (Du .u64 b p))*4294967296))+(Du .u64 (C2 .u64 b i) 32)))-(IntKind.wrap .u64 (q*(C2 .u64 c g)))))),(14,.int .u64 (Gz .and .u64 (C2 .u64 b i) 4294967295)),(2,.int .u64 (C2 .u64 c g)),(8,.int .u64 (IntKind.wrap .u64 H)),(15,.int .u64 q),(18,.int .u64 G)] (L) λ_ _=>IntKind.has .u64 G∧EB N d b c H g n p i q G=some r) ?_ ?_))))))))))
 ·refine A3 (λn3=>λa w=>∃(z:Int) (t:Int),IV B U V (135,[]) a w [(17,.int .u64 (IntKind.wrap .u64 ((IntKind.wrap .u64 ((IntKind.wrap .u64 ((Gz .or .u64 (C2 .u64 d n) (Du .u64 b p))*4294967296))+(Du .u64 (C2 .u64 b i) 32)))-(IntKind.wrap .u64 (q*(C2 .u64 c g)))))),(14,.int .u64 (Gz .and .u64 (C2 .u64 b i) 4294967295)),(10,.int .u64 (Gz .and .u64 (C2 .u64 c g) 4294967295)),(9,.int .u64 (Du .u64 (C2 .u64 c g) 32)),(2,.int .u64 (C2 .u64 c g)),(8,.int .u64 (IntKind.wrap .u64 H)),(15,.int .u64 q),(16,.int .u64 z),(18,.int .u64 t)] (L) λ_ _=>IntKind.has .u64 z∧IntKind.has .u64 t∧C7 N b c g i (EB N d b c H g n p i q) n3 z t=some r) N ?_ ?_ ?_
  ·intro u x k m
   exact⟨(IntKind.wrap .u64 ((IntKind.wrap .u64 ((IntKind.wrap .u64 ((IntKind.wrap .u64 ((Gz .or .u64 (C2 .u64 d n) (Du .u64 b p))*4294967296))+(Du .u64 (C2 .u64 b i) 32)))-(IntKind.wrap .u64 (q*(C2 .u64 c g)))))-(IntKind.wrap .u64 (W*(Du .u64 (C2 .u64 c g) 32))))),W,_,_,k.sub (kp [17,14,10,9,2,8,15,16,18] O),m,ah,(B9.refl U V),(D1 _ _),ar,E⟩
  ·rintro u x ⟨_,_,_,_,_,_,_,_,_,_,E⟩
   rw[C7] at E;cases E
  rintro n3 u x ⟨z,t,a5,a6,k,m,D,X,a7,au,E⟩
  refine Ac ?_ k m
  clear k m x u
  rw[C7] at E
  refine AC (AH (AA O (Gb O (AA O (AV 9 113 (.bool ((decide (4294967296≤t))||(decide ((IntKind.wrap .u64 ((IntKind.wrap .u64 (4294967296*z))+(Gz .and .u64 (C2 .u64 b i) 4294967295)))<(IntKind.wrap .u64 (t*(Gz .and .u64 (C2 .u64 c g) 4294967295))))))) ?_ ?_)))))
  ·cases a8:(decide (4294967296≤t))
   ·exact AB O (AA O (AB O (AA O (AB O (HV O O O (AB O (AA O (AB O (HV O O O (AB O (AA O (AB O (I9 O O O (AB O (Bk O (AJ O (AU O)))))))))))))))))
   exact Aa O O
  refine AM (kp [113,17,14,10,9,2,8,15,16,18] O) (AX O E (λav E=>?_) (λav E=>?_))
  ·refine AO (A8 (AH (AA O (Lt O O O (AL O (kp [18,17,14,10,9,2,8,15,16] O) (AH (AA O (AA O (I9 O O O (AL O (kp [16,18,17,14,10,9,2,8,15] O) (AH (AA O (Gb O (AM (kp [120,16,18,17,14,10,9,2,8,15] O) (AX O E (λaw E=>?_) (λaw E=>?_))))))))))))))))
   ·refine BA O (λu x k m=>?_)
    exact⟨(IntKind.wrap .u64 (t-1)),_,_,k.sub (kp [17,14,2,8,15,18] O),m,D,X,(D1 _ _),E⟩
   refine AO (BP (WF.nil (λu x k m=>?_)))
   exact⟨(IntKind.wrap .u64 (z+(Du .u64 (C2 .u64 c g) 32))),(IntKind.wrap .u64 (t-1)),_,_,k.sub (kp [17,14,10,9,2,8,15,16,18] O),m,D,X,(D1 _ _),(D1 _ _),E⟩
  refine BA O (λu x k m=>?_)
  exact⟨t,_,_,k.sub (kp [17,14,2,8,15,18] O),m,D,X,au,E⟩
 rintro u x ⟨G,a9,ba,k,m,ai,ax,bb,E⟩
 refine Ac ?_ k m
 clear k m x u
 rw[EB] at E
 refine AH (AA O (HV O O O (AA O (I9 O O O (AA O (HV O O O (AA O (I9 O O O (AA O (AA O (HV O O O (Lt O O O (AA O ?_)))))))))))))
 obtain⟨ay,aj,E⟩:=bd E
 refine Ii (j:=ay) O O O aj (AY O (AL O (kp [7,6] O) (Ad (λu x k m=>?_))))
 cases E
 exact KD k O m (IF (Ir k (v:=_) O) (IF (Ir k (v:=_) O) KC)) O (al.trans (aq.trans ax)) ⟨O,(D1 _ _),(PF _ (D1 _ _) _),ai⟩
end Go.Proofs.YtblcgjadhemlbaaGreat
