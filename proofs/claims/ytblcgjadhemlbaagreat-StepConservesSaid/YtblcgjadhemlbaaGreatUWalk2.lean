import Derived.Test.YtblcgjadhemlbaaGreatUWalk1
namespace Go.Proofs.YtblcgjadhemlbaaGreat
open Go.RowKit
set_option linter.unusedVariables false
set_option linter.unusedSimpArgs false
set_option maxRecDepth 10000
set_option maxHeartbeats 2000000
variable {N:Nat}{S:Nat→Prop}{L:List HP}{h:Av}
theorem I8 (hs:St S L h) {b:Int}(d:AG b) {a:Int}(g:AG a) {r:Bool}(E:Fp N b a=some r):
 CG Tryz.prog 73 #[vI b,vI a] S h (λv S' h'=>v= .bool r∧St S' (L) h'):=by
 refine BB (l:=[vI b,vI a]) 19 Tryz.func73 O Tryz.ntmps73 O λB=>?_
 rw[Fp] at E
 refine AI (AL O (kp [0,1] O) (AD (Bl (.inl O) hs (AA O ?_))))
 obtain⟨q,j,E⟩:=bd E
 refine Az O O O JZ O (λh' o=>Bv (St.all h') d j) (AA O ?_)
 obtain⟨k,c,E⟩:=bd E
 refine AV 3 10 (.bool k) ?_ ?_
 ·cases p:q
  ·have c:=GB p c
   cases c
   exact Aa O O
  have c:=GA p c
  refine AB O (AA O (AB O ?_))
  obtain⟨u,m,c⟩:=bd c
  refine Az O O O JZ O (λh' o=>Bv (St.all h') g m) (AJ O ?_)
  cases c
  exact AU O
 refine AA O (AV 7 18 (.bool (k&&((decide (a≠0))||(decide (b=0))))) ?_ ?_)
 ·cases w:k
  ·exact Aa O O
  refine AB O (AA O (AB O (Bc O (AB O (AA O (AV 3 17 (.bool ((decide (a≠0))||(decide (b=0)))) ?_ ?_))))))
  ·cases x:(decide (a≠0))
   ·exact AB O (AA O (AB O (BH O (AB O (AJ O (AU O))))))
   exact Aa O O
  exact AJ O (AU O)
 refine AY O (BJ (kp [4] O) λy i n=>Ac (λz A s t=>?_))
 cases E
 exact Dm s t O O n ⟨O,i⟩
theorem GK (hs:St S L h) {b:Int}(c:AG b) {a:Int}(d:AG a) {r:Bool}(E:D8 N b a=some r):
 CG Tryz.prog 75 #[vI b,vI a] S h (λv S' h'=>v= .bool r∧St S' (L) h'):=by
 refine BB (l:=[vI b,vI a]) 9 Tryz.func75 O Tryz.ntmps75 O λB=>?_
 rw[D8] at E
 refine AI (AL O (kp [0,1] O) (AD (Bl (.inl O) hs (AA O (AA O (Cg O ?_))))))
 obtain⟨p,g,E⟩:=bd E
 refine Az O O O Hn O (λh' o=>Bp (St.all h') c (iq (n:=0) O) (BI _) g) (AY O (BJ (kp [4] O) λq i j=>Ac (λs t k m=>?_)))
 cases E
 exact Dm k m O O j ⟨O,i⟩
theorem LU (hs:St S L h) {c:Value}{j:AW}(i:Rd S h B3 c j) {a:Int}(k:AG a) {b:Int}(g:AG b) {r:Bool}(E:Hl N j a b=some r):
 CG Tryz.prog 74 #[c,vI a,vI b] S h (λv S' h'=>v= .bool r∧St S' (L) h'):=by
 refine BB (l:=[c,vI a,vI b]) 21 Tryz.func74 O Tryz.ntmps74 O λB=>?_
 rw[Hl] at E
 refine WF.sl (B5 O i (λe=>by cases e) O hs λJ S2 K m z A=>AH 1 (AY O (AF (AZ (kp [3,1,2] O) (AD (Bl (.inl O) m (AA O (BH O (AA O ?_)))))))))
 obtain⟨C,d,E⟩:=bd E
 refine AV 11 20 (.bool C) ?_ ?_
 ·cases y:(decide (b=(-1)))
  ·have d:=GB y d
   refine AB O (AA O (AB O (Ai O A BU DI O λM t=>AB O (An Bb m.1 O t GO O λD u=>AB O (Al O u qZ O λw=>AB O ?_)))))
   obtain⟨n,p,d⟩:=bd d
   refine Az O O O Px O (λh' o=>GK (St.all h') g (JW w) p) (AB O (AA O (AV 4 19 (.bool (n&&(decide (b≠a)))) ?_ ?_)))
   ·cases F:n
    ·exact Aa O O
    exact AB O (AA O (AB O (AA O (AB O (Bc O (AB O (AJ O (AU O))))))))
   refine AJ O ?_
   cases d
   exact AU O
  have d:=GA y d
  cases d
  exact Aa O O
 refine AY O (BJ (kp [6] O) λG s x=>Ac (λQ U H I=>?_))
 cases E
 exact Dm H I O O (z.trans x) ⟨O,s⟩
theorem L8 (hs:St S L h) {K:Value}{c:AW}(ap:Rd S h B3 K c) {r:Bool}(E:HT N c=some r):
 CG Tryz.prog 49 #[K] S h (λv S' h'=>v= .bool r∧St S' (L) h'):=by
 refine BB (l:=[K]) 122 Tryz.func49 O Tryz.ntmps49 O λB=>?_
 rw[HT] at E
 refine WF.sl (B5 O ap (λe=>by cases e) O hs λq1 S2 h3 bj e5 k6=>AH 1 (AY O (AF (AZ (kp [1] O) (AI (AL O (kp [3,1] O) (AD (AI (Ai O k6 BU DI O λq7 k8=>An A6 bj.1 O k8 GO O λv9 bk=>Al O bk qZ O λd4=>AA O (AN (kp [14,13,12,3,1] O) (Am (λa w=>∃(aq:Int),IV B S2 h3 (122,[]) a w [(3,vI aq)] (L) λ_ _=>AG aq∧Bo N aq=some r) ?_ ?_)))))))))))
 ·refine A3 (λn1=>λa w=>∃(af:Int) (k:Int),IV B S2 h3 (122,[]) a w [(13,vI (↑c.Places.length:Int)),(12,v9),(1,q1),(3,vI af),(14,vI k)] (L) λ_ _=>AG af∧AG k∧BX N c (Bo N) n1 af k=some r) N ?_ ?_ ?_
  ·intro m p g i
   exact⟨0,0,_,_,g.sub (kp [13,12,1,3,14] O),i,bj,(B9.refl S2 h3),(iq (n:=0) O),(iq (n:=0) O),E⟩
  ·rintro m p ⟨_,_,_,_,_,_,_,_,_,_,E⟩
   rw[BX] at E;cases E
  rintro n1 m p ⟨af,k,ar,ct,g,i,ag,M,bl,cu,E⟩
  refine Ad ?_ g i
  clear g i p m
  rw[BX] at E
  refine AI (Aq O (AN (kp [15,13,12,1,3,14] O) (AD (AX O E (λcv E=>?_) (λcv E=>?_)))))
  ·refine AT (AD (Am (λa w=>∃(ah:Int),IV B ar ct (122,[]) a w [(13,vI (↑c.Places.length:Int)),(12,v9),(1,q1),(14,vI k),(3,vI ah)] (L) λ_ _=>AG ah∧CC N k (BX N c (Bo N) n1) ah=some r) ?_ ?_))
   ·refine WF.sl (AH 3 (AA O ?_))
    obtain⟨b,bm,E⟩:=bd E
    refine BD O O (bk.mono' M) qZ bm O λd5 cw=>B4 A6 ag.1 O cw Jt (λe=>by cases e) O λd6 cx=>AF (Cs OR O ag λau d7 bn Q=>AH 1 (AY O (AF ?_)))
    obtain⟨av,ai,aj,rfl,d8,cy,cz,c0,bo,a4,c1,c2,c3,c4,c5,bp⟩:=Bw.ex (cx.mono Q)
    refine HJ (vs:=[.string b.Name,vI b.Kind,vI b.Office,vI b.Cap,av,ai,vI b.Num,vI b.Den,vI b.Down,vI b.Delay,vI b.Floor,aj]) (cs':=[.string b.Name,vI b.Kind,vI b.Office,vI b.Cap,av,ai,vI b.Num,vI b.Den,vI b.Down,vI b.Delay,vI b.Floor,aj]) O O O (AE O (AE O (AE O (AE O (AE bo.one (AE a4.one (AE O (AE O (AE O (AE O (AE O (AE bp.one EA)))))))))))) Jt O bn .head O O λd9 d D=>AZ (kp [4,5,13,12,1,3,14] O) (AD (AD (Bl (.inl O) d (AC YY O (AS Bb d O mh O Ag O ?_)))))
    obtain⟨c6,bq,E⟩:=bd E
    refine Az O O O Hn O (λh' o=>Bp (St.all h') cy (iq (n:=0) O) (iq (n:=3) O) bq) (BV O (AA O ?_))
    obtain⟨br,s,E⟩:=bd E
    refine AV 5 28 (.bool br) ?_ ?_
    ·cases bs:(!c6)
     ·have s:=GB bs s
      refine AB O (AC Lj O (AB O (AS Bb d O mh O Ag O (AB O ?_))))
      obtain⟨ea,bt,s⟩:=bd s
      refine Az O O O Hn O (λh' o=>Bp (St.all h') cz (iq (n:=0) O) (iq (n:=2) O) bt) (AB O (BV O (AJ O ?_)))
      cases s
      exact AU O
     have s:=GA bs s
     cases s
     exact Aa O O
    refine AA O ?_
    obtain⟨bu,t,E⟩:=bd E
    refine AV 5 34 (.bool bu) ?_ ?_
    ·cases bv:br
     ·have t:=GB bv t
      refine AB O (AC Rg O (AB O (AS Bb d O mh O Ag O (AB O ?_))))
      obtain⟨eb,bw,t⟩:=bd t
      refine Az O O O Hn O (λh' o=>Bp (St.all h') c4 (iq (n:=0) O) (iq (n:=240) O) bw) (AB O (BV O (AJ O ?_)))
      cases t
      exact AU O
     have t:=GA bv t
     cases t
     exact Aa O O
    refine AA O ?_
    obtain⟨bx,u,E⟩:=bd E
    refine AV 5 40 (.bool bx) ?_ ?_
    ·cases bz:bu
     ·have u:=GB bz u
      refine AB O (AC Uh O (AB O (AS Bb d O mh O Ag O (AB O ?_))))
      obtain⟨ec,b0,u⟩:=bd u
      refine Az O O O JZ O (λh' o=>Bv (St.all h') c0 b0) (AB O (BV O (AJ O ?_)))
      cases u
      exact AU O
     have u:=GA bz u
     cases u
     exact Aa O O
    refine AA O ?_
    obtain⟨b1,x,E⟩:=bd E
    refine AV 5 46 (.bool b1) ?_ ?_
    ·cases b2:bx
     ·have x:=GB b2 x
      refine AB O (AC Ws O (AB O (AS Bb d O mh O Ag O (AB O ?_))))
      obtain⟨ed,b3,x⟩:=bd x
      refine Az O O O JZ O (λh' o=>Bv (St.all h') c5 b3) (AB O (BV O (AJ O ?_)))
      cases x
      exact AU O
     have x:=GA b2 x
     cases x
     exact Aa O O
    refine AA O ?_
    obtain⟨aw,y,E⟩:=bd E
    refine AV 5 52 (.bool aw) ?_ ?_
    ·cases b4:b1
     ·have y:=GB b4 y
      refine AB O (AC YX O (AB O (AS Bb d O mh O IL O (AB O ?_))))
      obtain⟨ee,b5,y⟩:=bd y
      refine Az O O O Py O (λh' o=>GJ (St.all h') ((bo.mono' D).mono' (o.all d.1)) b5) (AB O (BV O (AJ O ?_)))
      cases y
      exact AU O
     have y:=GA b4 y
     cases y
     exact Aa O O
    refine AA O (AV 8 61 (.bool (aw||(decide ((↑b.Start.length:Int)≠(↑c.Owners.length:Int))))) ?_ ?_)
    ·cases ef:aw
     ·exact AB O (AC Ri O (AB O (AS Bb d O mh O BP O (AB O (Al O (a4.mono' D) BG O λeg=>AB O (Ai O (k6.mono (M.trans (Q.trans D))) Dl HS O λeh c7=>AB O (An Bb d.1 O c7 KE O λei c8=>AB O (Al O c8 Jv O λej=>AB O (Bc O (AJ O (AU O)))))))))))
     exact Aa O O
    refine AA O ?_
    obtain⟨b6,z,E⟩:=bd E
    refine AV 7 69 (.bool b6) ?_ ?_
    ·cases b7:(aw||(decide ((↑b.Start.length:Int)≠(↑c.Owners.length:Int))))
     ·have z:=GB b7 z
      refine AB O (AC Rh O (AB O (AS Bb d O mh O Ag O (AB O (AC K1 O (AB O (AS Bb d O mh O Ag O (AB O ?_))))))))
      obtain⟨ek,b8,z⟩:=bd z
      refine Az O O O XT O (λh' o=>I8 (St.all h') c1 c2 b8) (AB O (BV O (AJ O ?_)))
      cases z
      exact AU O
     have z:=GA b7 z
     cases z
     exact Aa O O
    refine AA O ?_
    obtain⟨c9,A,E⟩:=bd E
    refine AV 7 77 (.bool c9) ?_ ?_
    ·cases b9:b6
     ·have A:=GB b9 A
      refine AB O (B4 Bb d.1 O (k6.mono (M.trans (Q.trans D))) G8 (λe=>by cases e) O λdb ca=>AB O (AA O (AB O (AC PK O (AB O (AS Bb d O mh O Ag O (AB O ?_)))))))
      obtain⟨dc,a5,A⟩:=bd A
      refine Az O O O Zd O (λh' o=>LU (St.all h') (ca.mono (o.all d.1)) cu c3 a5) (AB O (BV O (AJ O ?_)))
      cases A
      exact AU O
     have A:=GA b9 A
     cases A
     exact Aa O O
    refine BJ (kp [77,5,13,12,1,3,14] O) λak X F=>AX O E (λcb E=>?_) (λcb E=>?_)
    ·refine AI (AL O (kp [2] O) (Ac (λm p g i=>?_)))
     have a6:=X.drop .head
     cases E
     exact Dm g i O O (e5.trans (M.trans (Q.trans (D.trans F)))) ⟨O,a6⟩
    refine AT (AD (AI (AC Ri O (AS A6 X O mh O BP O ?_))))
    have ax:=a4.mono' (D.trans F)
    refine Al O ax BG O λdd=>AA O (AN (kp [81,80,79,5,13,12,1,3,14] O) (Am (λa w=>∃(G:Int),IV B ar ak (122,[]) a w [(5,vP au 0),(13,vI (↑c.Places.length:Int)),(12,v9),(1,q1),(14,vI k),(3,vI G)] (Bx au 56 [.string b.Name,vI b.Kind,vI b.Office,vI b.Cap,av,ai,vI b.Num,vI b.Den,vI b.Down,vI b.Delay,vI b.Floor,aj]::L) λ_ _=>AG G∧Dc N c b (CC N k (BX N c (Bo N) n1)) G=some r) ?_ ?_))
    ·refine A3 (λn4=>λa w=>∃(J:Int) (U:Int),IV B ar ak (122,[]) a w [(80,vI (↑b.Start.length:Int)),(79,ai),(5,vP au 0),(13,vI (↑c.Places.length:Int)),(12,v9),(1,q1),(14,vI k),(3,vI J),(81,vI U)] (Bx au 56 [.string b.Name,vI b.Kind,vI b.Office,vI b.Cap,av,ai,vI b.Num,vI b.Den,vI b.Down,vI b.Delay,vI b.Floor,aj]::L) λ_ _=>AG J∧AG U∧CW N b (Dc N c b (CC N k (BX N c (Bo N) n1))) n4 J U=some r) N ?_ ?_ ?_
     ·intro m p g i
      exact⟨af,0,_,_,g.sub (kp [80,79,5,13,12,1,14,3,81] O),i,X,(B9.refl ar ak),bl,(iq (n:=0) O),E⟩
     ·rintro m p ⟨_,_,_,_,_,_,_,_,_,_,E⟩
      rw[CW] at E;cases E
     rintro n4 m p ⟨J,U,de,df,g,i,Y,ac,cc,dg,E⟩
     refine Ad ?_ g i
     clear g i p m
     rw[CW] at E
     refine AI (Aq O (AN (kp [82,80,79,5,13,12,1,14,3,81] O) (AD (AX O E (λcd E=>?_) (λcd E=>?_)))))
     ·refine AT (AD (A5 (AI ?_)))
      obtain⟨ce,a7,E⟩:=bd E
      refine BD O O (ax.mono' ac) BG a7 O λdh cf=>Ah A6 Y.1 O cf Ag O λcg=>AL O (kp [7,80,79,5,13,12,1,14,3,81] O) (AD (AD (Bl (.inl O) Y (AA O ?_))))
      obtain⟨di,a8,E⟩:=bd E
      refine Az O O O JZ O (λh' o=>Bv (St.all h') cg a8) (BV O (BJ (kp [87,7,80,79,5,13,12,1,14,3,81] O) λdj am ay=>AX O E (λch E=>?_) (λch E=>?_)))
      ·refine AI (AL O (kp [2] O) (Ac (λm p g i=>?_)))
       have a9:=am.drop .head
       cases E
       exact Dm g i O O (e5.trans (M.trans (Q.trans (D.trans (F.trans (ac.trans ay)))))) ⟨O,a9⟩
      refine AT (BY (.inl O) (AA O (AA O (Af O (AL O (kp [3,80,79,5,13,12,1,14,81] O) (BK (BY (.inl O) (Af O (AA O (AN (kp [81,3,80,79,5,13,12,1,14] O) (WF.nil (λm p g i=>?_))))))))))))
      exact⟨(BC (J+ce)),(BC (U+1)),_,_,g.sub (kp [80,79,5,13,12,1,14,3,81] O),i,am,(ac.trans ay),(BI _),(BI _),E⟩
     refine A9 O (λm p g i=>?_)
     exact⟨J,_,_,g.sub (kp [5,13,12,1,14,3] O),i,Y,ac,cc,E⟩
    rintro m p ⟨G,az,a0,g,i,an,ad,ci,E⟩
    refine Ad ?_ g i
    clear g i p m
    rw[Dc] at E
    refine AI (AL O (kp [8,5,13,12,1,14,3] O) (AI (AC Wr O (AS A6 an O mh O cZ O ?_))))
    have a1:=bp.mono' (D.trans (F.trans ad))
    refine Al O a1 ZL O λdk=>AA O (AN (kp [95,94,93,8,13,12,1,14,3] O) (A5 (A3 (λn5=>λa w=>∃(H:Int) (V:Int),IV B az a0 (122,[]) a w [(94,vI (↑b.Rain.length:Int)),(93,aj),(13,vI (↑c.Places.length:Int)),(12,v9),(1,q1),(14,vI k),(3,vI G),(8,vI H),(95,vI V)] (L) λ_ _=>AG H∧AG V∧CV N c b G (CC N k (BX N c (Bo N) n1)) n5 H V=some r) N ?_ ?_ ?_)))
    ·intro m p g i
     have ba:=an.drop .head
     exact⟨(-1),0,_,_,g.sub (kp [94,93,13,12,1,14,3,8,95] O),i,ba,(B9.refl az a0),(iq (n:=(-1)) O),(iq (n:=0) O),E⟩
    ·rintro m p ⟨_,_,_,_,_,_,_,_,_,_,E⟩
     rw[CV] at E;cases E
    rintro n5 m p ⟨H,V,dl,dm,g,i,Z,W,dn,dp,E⟩
    refine Ad ?_ g i
    clear g i p m
    rw[CV] at E
    refine AI (Aq O (AN (kp [96,94,93,13,12,1,14,3,8,95] O) (AD (AX O E (λcj E=>?_) (λcj E=>?_)))))
    ·refine AT (AD (A5 (WF.sl (AH 2 ?_))))
     obtain⟨C,bb,E⟩:=bd E
     refine BD O O (a1.mono' W) ZL bb O λdq ck=>B4 A6 Z.1 O ck Vv (λe=>by cases e) O λdr cl=>AF (Cs Zp O Z λds dt bc ae=>?_)
     obtain⟨rfl,⟨cm,cn⟩⟩:=KC.ex (cl.mono ae)
     refine Dh (vs:=[vI C.Index,vI C.Area]) O O O O Vv O bc .head O λdu I ao=>AZ (kp [10,94,93,13,12,1,14,3,8,95] O) (AD (AD (Bl (.inl O) I (AC Po O (AS Bb I O mh O Ag O (AA O (Ft O (AA O (AV 6 109 (.bool ((decide (C.Index≤H))||(decide (c.Cells≤C.Index)))) ?_ ?_)))))))))
     ·cases dv:(decide (C.Index≤H))
      ·exact AB O (AC Po O (AB O (AS Bb I O mh O Ag O (AB O (Ai O (k6.mono (M.trans (Q.trans (D.trans (F.trans (ad.trans (W.trans (ae.trans ao)))))))) Ks Rm O λdw co=>AB O (Ah Bb I.1 O co Ag O λdx=>AB O (Gv O (AJ O (AU O)))))))))
      exact Aa O O
     refine AA O ?_
     obtain⟨cp,j,E⟩:=bd E
     refine AV 5 115 (.bool cp) ?_ ?_
     ·cases a2:((decide (C.Index≤H))||(decide (c.Cells≤C.Index)))
      ·have j:=GB a2 j
       refine AB O (AC Wu O (AB O (AS Bb I O mh O Ag O (AB O ?_))))
       obtain⟨dy,be,j⟩:=bd j
       refine Az O O O JZ O (λh' o=>Bv (St.all h') cn be) (AB O (BV O (AJ O ?_)))
       cases j
       exact AU O
      have j:=GA a2 j
      cases j
      exact Aa O O
     refine BJ (kp [115,10,94,93,13,12,1,14,3,95] O) λdz ab a3=>AX O E (λcq E=>?_) (λcq E=>?_)
     ·refine AI (AL O (kp [2] O) (Ac (λm p g i=>?_)))
      have bf:=ab.drop .head
      cases E
      exact Dm g i O O (e5.trans (M.trans (Q.trans (D.trans (F.trans (ad.trans (W.trans (ae.trans (ao.trans a3))))))))) ⟨O,bf⟩
     refine AT (BY (.inl O) (AC Po O (AS A6 ab O mh O Ag O (AL O (kp [8,94,93,13,12,1,14,3,95] O) (BK (BY (.inl O) (Af O (AA O (AN (kp [95,8,94,93,13,12,1,14,3] O) (WF.nil (λm p g i=>?_)))))))))))
     have bg:=ab.drop .head
     exact⟨C.Index,(BC (V+1)),_,_,g.sub (kp [94,93,13,12,1,14,3,8,95] O),i,bg,(W.trans (ae.trans (ao.trans a3))),cm,(BI _),E⟩
    refine Ko O (WF.nil (λm p g i=>?_))
    exact⟨G,_,_,g.sub (kp [13,12,1,14,3] O),i,Z,(Q.trans (D.trans (F.trans (ad.trans W)))),ci,E⟩
   rintro m p ⟨ah,d0,d1,g,i,bh,cr,da,E⟩
   refine Ad ?_ g i
   clear g i p m
   rw[CC] at E
   refine BY (.inl O) (Af O (AA O (AN (kp [14,13,12,1,3] O) (WF.nil (λm p g i=>?_)))))
   exact⟨ah,(BC (k+1)),_,_,g.sub (kp [13,12,1,3,14] O),i,bh,(M.trans cr),da,(BI _),E⟩
  refine A9 O (λm p g i=>?_)
  exact⟨af,_,_,g.sub (kp [3] O),i,ag,M,bl,E⟩
 rintro m p ⟨aq,d2,d3,g,i,bi,cs,el,E⟩
 refine Ad ?_ g i
 clear g i p m
 rw[Bo] at E
 refine AI (AA O (Ft O (AL O (kp [2] O) (Ac (λm p g i=>?_)))))
 cases E
 exact Dm g i O O (e5.trans cs) ⟨O,bi⟩
theorem Oo (hs:St S L h) {d:Int}(t:AG d) {c:Value}{s:(Int→Option Bool)}(u:Rd S h (AM.fn Tryz.prog (λx:Int=>([vI x]:List Value)) (λx:Int=>AG x) (λy:Bool=> .bool y) (λy:Bool=>True)) c s) {r:Int}(E:Jn N d s=some r):
 CG Tryz.prog 110 #[vI d,c] S h (λv S' h'=>v=vI r∧AG r∧St S' (L) h'):=by
 refine BB (l:=[vI d,c]) 26 Tryz.func110 O Tryz.ntmps110 O λB=>?_
 rw[Jn] at E
 obtain⟨J,K,rfl,M,Q⟩:=u.fn
 refine AI (AL O (kp [0,1] O) (AI (AA O (AY O (AL O (kp [6,5,1] O) (AD (Am (λa w=>∃(I:Int),IV B S h (26,[]) a w [(5,vI I)] (L) λ_ _=>AG I∧Hd N I=some r) ?_ ?_)))))))
 ·refine A3 (λY=>λa w=>∃(g:Int) (i:Int),IV B S h (26,[]) a w [(1,(.func (.func J) #[] K)),(5,vI g),(6,vI i)] (L) λ_ _=>AG g∧AG i∧E9 N s (Hd N) Y g i=some r) N ?_ ?_ ?_
  ·intro z A k m
   exact⟨0,d,_,_,k.sub (kp [1,5,6] O),m,hs,(B9.refl S h),(iq (n:=0) O),t,E⟩
  ·rintro z A ⟨_,_,_,_,_,_,_,_,_,_,E⟩
   rw[E9] at E;cases E
  rintro Y z A ⟨g,i,Z,ab,k,m,p,q,D,U,E⟩
  refine Ad ?_ k m
  clear k m A z
  rw[E9] at E
  refine AD (AI (AA O (AA O (Aq O (AN (kp [11,1,5,6] O) (AX O E (λV E=>?_) (λV E=>?_)))))))
  ·refine AT (A5 (AI (AA O (AA O (Af O (HI O OA TQ O (Ih (j:=1) O O O O (HI O TQ OA O (AL O (kp [7,1,5,6] O) (AD (Bl (.inl O) p (AA O (AA O ?_)))))))))))))
   obtain⟨ac,F,E⟩:=bd E
   refine Az O O O M O (λh' o=>Q _ h' (λb hb=>Nat.lt_of_lt_of_le (p.1 b (q.sub b hb)) o.siz) (λb hb=>(o.same b (p.1 b (q.sub b hb))).trans (q.same b hb)) [] (St.all h') _ _ (BI _) F) (BV O (BJ (kp [21,7,1,5,6] O) λad C G=>AX O E (λW E=>?_) (λW E=>?_)))
   ·refine BY (.inl O) (AA O (Af O (AL O (kp [5,1,6] O) (BK (WF.nil (λz A k m=>?_))))))
    exact⟨(BC ((BC (Dp .u64 (IntKind.wrap .u64 (BC (g+i))) 1))+1)),i,_,_,k.sub (kp [1,5,6] O),m,C,(q.trans G),(BI _),U,E⟩
   refine BY (.inl O) (AA O (AL O (kp [6,1,5] O) (BK (WF.nil (λz A k m=>?_)))))
   exact⟨g,(BC (Dp .u64 (IntKind.wrap .u64 (BC (g+i))) 1)),_,_,k.sub (kp [1,5,6] O),m,C,(q.trans G),D,(BI _),E⟩
  refine A9 O (λz A k m=>?_)
  exact⟨g,_,_,k.sub (kp [5] O),m,p,q,D,E⟩
 rintro z A ⟨I,ae,af,k,m,H,X,r6,E⟩
 refine Ad ?_ k m
 clear k m A z
 rw[Hd] at E
 refine AI (AA O (AL O (kp [4] O) (Ac (λz A k m=>?_))))
 cases E
 exact Dm k m O O X ⟨O,r6,H⟩
theorem Nw (hs:St S L h) {c:Int}(i:AG c) {a:Value}{c1_:(List BO)}(d:Pt S h (AM.sl Bq) a c1_) {b:Value}{c2_:Int}(g:Pt S h AM.int b c2_) {r:Bool}(E:G5 N c1_ c2_ c=some r):
 CG Tryz.prog 111 #[vI c,a,b] S h (λv S' h'=>v= .bool r∧St S' (L) h'):=by
 refine BB (l:=[vI c,a,b]) 12 Tryz.func111 O Tryz.ntmps111 O λB=>?_
 rw[G5] at E
 refine AI (AL O (kp [0,1,2] O) (AD (BY (.inr ⟨mo,by kernel_rfl⟩) (An A6 hs.1 O d IL O λv1 k=>AA O ?_))))
 obtain⟨q,j,E⟩:=bd E
 refine BD O O k H3 j O λs m=>Ai O m Kq Iy O λt n=>Ah A6 hs.1 O n Ag O λu=>Ah A6 hs.1 O g Ag O λw=>Bh O (AL O (kp [4] O) (Ac (λx y o p=>?_)))
 cases E
 exact Dm o p O O (B9.refl S h) ⟨O,hs⟩
theorem KG (hs:St S L h) {a:Int}(c:IntKind.has .u64 a) {b:Int}(d:IntKind.has .u64 b) {r:Int×Int}(E:GH N a b=some r):
 CG Tryz.prog 94 #[.int .u64 a,.int .u64 b] S h (λv S' h'=>v= .tuple #[.int .u64 r.1,.int .u64 r.2]∧IntKind.has .u64 r.1∧IntKind.has .u64 r.2∧St S' (L) h'):=by
 refine BB (l:=[.int .u64 a,.int .u64 b]) 51 Tryz.func94 O Tryz.ntmps94 O λB=>?_
 rw[GH] at E
 refine AI (AY O (AL O (kp [0,1] O) (AI (AA O (N4 O O O (AL O (kp [6,0,1] O) (AI (AA O (Ih (j:=32) O O O O (AL O (kp [7,6,0,1] O) (AI (AA O (N4 O O O (AL O (kp [8,7,6,0,1] O) (AI (AA O (Ih (j:=32) O O O O (AL O (kp [9,8,7,6,0,1] O) (AI (AA O (AA O (HU O O O (AL O (kp [10,9,8,7,6,0,1] O) (AI (AA O (AA O (HU O O O (AA O (Ih (j:=32) O O O O ?_)))))))))))))))))))))))))))))
 refine I3 O O O (AL O (kp [11,9,7,6,0,1] O) (AI (AA O (N4 O O O (AL O (kp [12,11,9,7,6,0,1] O) (AI (AA O (Ih (j:=32) O O O O (AL O (kp [13,12,9,7,6,0,1] O) (AI (AA O (AA O (AA O (HU O O O (I3 O O O (AL O (kp [12,13,9,7,0,1] O) (AI (AA O (AA O (HU O O O (AA O (I3 O O O (AA O (Ih (j:=32) O O O O (I3 O O O (AL O (kp [4,0,1] O) (AI (AA O (AA O ?_)))))))))))))))))))))))))))))
 refine HU O O O (AL O (kp [5,4] O) (Ac (λk m g i=>?_)))
 cases E
 exact J9 g O i (IC (Im g (v:=_) O) (IC (Im g (v:=_) O) J8)) O (B9.refl S h) ⟨O,(Dz _ _),(Dz _ _),hs⟩
theorem M3 (hs:St S L h) {d:Int}(g:IntKind.has .u64 d) {r:Int}(E:HG N d=some r):
 CG Tryz.prog 112 #[.int .u64 d] S h (λv S' h'=>v=vI r∧AG r∧St S' (L) h'):=by
 refine BB (l:=[.int .u64 d]) 25 Tryz.func112 O Tryz.ntmps112 O λB=>?_
 rw[HG] at E
 refine AI (AL O (kp [2,0] O) (AD (AI (AA O (Gv O (AN (kp [4,2,0] O) (Gs (λa w=>∃(y:Int) (z:Int),IV B S h (25,[]) a w [(0,.int .u64 y),(2,vI z)] (L) λ_ _=>IntKind.has .u64 y∧AG z∧FC N y z=some r) ?_ ?_)))))))
 ·refine AX O E (λU E=>?_) (λU E=>?_)
  ·refine AI (AA O (Ih (j:=32) O O O O (AL O (kp [0] O) (BY (.inl O) (AL O (kp [2,0] O) (WF.nil (λm o b c=>?_)))))))
   exact⟨(Dp .u64 d 32),32,_,_,b.sub (kp [0,2] O),c,hs,(B9.refl S h),(PD _ g _),(iq (n:=32) O),E⟩
  refine AT (WF.nil (λm o b c=>?_))
  exact⟨d,0,_,_,b.sub (kp [0,2] O),c,hs,(B9.refl S h),g,(iq (n:=0) O),E⟩
 rintro m o ⟨y,z,F,G,b,c,A,V,Q,W,E⟩
 refine Ad ?_ b c
 clear b c o m
 rw[FC] at E
 refine AD (AI (AA O (Gv O (AN (kp [8,0,2] O) (Gs (λa w=>∃(i:Int) (k:Int),IV B F G (25,[]) a w [(0,.int .u64 i),(2,vI k)] (L) λ_ _=>IntKind.has .u64 i∧AG k∧FB N i k=some r) ?_ ?_)))))
 ·refine AX O E (λH E=>?_) (λH E=>?_)
  ·refine AI (AA O (Ih (j:=16) O O O O (AL O (kp [0,2] O) (BY (.inl O) (AA O (Af O (AL O (kp [2,0] O) (WF.nil (λm o b c=>?_)))))))))
   exact⟨(Dp .u64 y 16),(BC (z+16)),_,_,b.sub (kp [0,2] O),c,A,(B9.refl F G),(PD _ Q _),(BI _),E⟩
  refine AT (WF.nil (λm o b c=>?_))
  exact⟨y,z,_,_,b.sub (kp [0,2] O),c,A,(B9.refl F G),Q,W,E⟩
 rintro m o ⟨i,k,u,x,b,c,s,I,C,J,E⟩
 refine Ad ?_ b c
 clear b c o m
 rw[FB] at E
 refine AD (AI (AA O (Gv O (AN (kp [14,0,2] O) (Gs (λa w=>∃(p:Int) (q:Int),IV B u x (25,[]) a w [(0,.int .u64 p),(2,vI q)] (L) λ_ _=>IntKind.has .u64 p∧AG q∧FA N p q=some r) ?_ ?_)))))
 ·refine AX O E (λK E=>?_) (λK E=>?_)
  ·refine AI (AA O (Ih (j:=8) O O O O (AL O (kp [0,2] O) (BY (.inl O) (AA O (Af O (AL O (kp [2,0] O) (WF.nil (λm o b c=>?_)))))))))
   exact⟨(Dp .u64 i 8),(BC (k+8)),_,_,b.sub (kp [0,2] O),c,s,(B9.refl u x),(PD _ C _),(BI _),E⟩
  refine AT (WF.nil (λm o b c=>?_))
  exact⟨i,k,_,_,b.sub (kp [0,2] O),c,s,(B9.refl u x),C,J,E⟩
 rintro m o ⟨p,q,X,Y,b,c,D,M,Z,ab,E⟩
 refine Ad ?_ b c
 clear b c o m
 rw[FA] at E
 refine AI (AA O (AA O (HI O K5 cX O ?_)))
 obtain⟨ac,t,E⟩:=bd E
 have ad:=Nz t
 refine N3 O O QC t O (HI O cX OA O (Af O (AL O (kp [2] O) (Ac (λm o b c=>?_)))))
 cases E
 exact Dm b c O O (V.trans (I.trans M)) ⟨O,(BI _),D⟩
theorem KA (hs:St S L h) {a:Int}(b:IntKind.has .u64 a) {r:Int}(E:D6 N a=some r):
 CG Tryz.prog 103 #[.int .u64 a] S h (λv S' h'=>v=vI r∧AG r∧St S' (L) h'):=by
 refine BB (l:=[.int .u64 a]) 6 Tryz.func103 O Tryz.ntmps103 O λB=>?_
 rw[D6] at E
 refine AI (AL O (kp [0] O) (AD (Bl (.inl O) hs (AA O ?_))))
 obtain⟨m,c,E⟩:=bd E
 refine CE O O O aW O (λh' o=>M3 (St.all h') b c) λg=>?_
 have n:=g
 refine Cg O (AY O (BJ (kp [2] O) λp d i=>Ac (λq s j k=>?_)))
 cases E
 exact Dm j k O O i ⟨O,(BI _),d⟩
theorem KH (hs:St S L h) {d:Int}(Y:IntKind.has .u64 d) {b:Int}(A:IntKind.has .u64 b) {c:Int}(F:IntKind.has .u64 c) {r:Int×Int}(E:EY N d b c=some r):
 CG Tryz.prog 95 #[.int .u64 d,.int .u64 b,.int .u64 c] S h (λv S' h'=>v= .tuple #[.int .u64 r.1,.int .u64 r.2]∧IntKind.has .u64 r.1∧IntKind.has .u64 r.2∧St S' (L) h'):=by
 refine BB (l:=[.int .u64 d,.int .u64 b,.int .u64 c]) 135 Tryz.func95 O Tryz.ntmps95 O λB=>?_
 rw[EY] at E
 refine AI (AY O (AL O (kp [0,1,2] O) (AD (AI (AA O (BH O (AN (kp [20,0,1,2] O) (AX O E (λc1 E=>?_) (λc1 E=>?_)))))))))
 ·cases E
 refine AT (AD (AI (AA O (AA O (Ft O (AN (kp [24,0,1,2] O) (AX O E (λc2 E=>?_) (λc2 E=>?_))))))))
 ·cases E
 refine AT (AD (AI (AA O (BH O (AN (kp [27,0,1,2] O) (AX O E (λc3 E=>?_) (λc3 E=>?_)))))))
 ·refine AD (BY (.inr ⟨mo,by kernel_rfl⟩) (AA O (AA O ?_)))
  obtain⟨z4,Z,E⟩:=bd E
  have r5:IntKind.has .u64 z4:=MK Z
  refine Rz O O O Z (AA O (AA O ?_))
  obtain⟨z6,ab,E⟩:=bd E
  have r7:IntKind.has .u64 z6:=WQ A ab
  refine Yr O O O ab (AY O (AL O (kp [7,6] O) (Ac (λu x k m=>?_))))
  cases E
  exact J9 k O m (IC (Im k (v:=_) O) (IC (Im k (v:=_) O) J8)) O (B9.refl S h) ⟨O,r5,r7,hs⟩
 refine AT (AD (Bl (.inl O) hs (AA O ?_)))
 obtain⟨H,ak,E⟩:=bd E
 refine CE O O O bD O (λh' o=>KA (St.all h') F ak) λr9=>?_
 have az:=r9
 refine HI O OA TQ O (AY O (BJ (kp [8,0,1,2] O) λK ac al=>AI (AA O (AA O ?_))))
 obtain⟨g,ad,E⟩:=bd E
 refine Ry (j:=g) O O O ad (AL O (kp [2,8,0,1] O) (AI (AA O (Ih (j:=32) O O O O (AL O (kp [9,2,8,0,1] O) (AI (AA O (N4 O O O (AL O (kp [10,9,2,8,0,1] O) (AI (AA O (AA O ?_))))))))))))
 obtain⟨n,ae,E⟩:=bd E
 refine Ry (j:=n) O O O ae (AA O (AA O (Ls O O O ?_)))
 obtain⟨p,af,E⟩:=bd E
 refine Ih (j:=p) O O O af (bO O O O (AL O (kp [11,10,9,2,8,1] O) (AI (AA O (AA O ?_)))))
 obtain⟨i,ag,E⟩:=bd E
 refine Ry (j:=i) O O O ag (AL O (kp [12,11,10,9,2,8] O) (AI (AA O (Ih (j:=32) O O O O (AL O (kp [13,12,11,10,9,2,8] O) (AI (AA O (N4 O O O (AL O (kp [14,13,11,10,9,2,8] O) (AI (AA O (AA O ?_))))))))))))
 obtain⟨M,I,E⟩:=bd E
 have am:IntKind.has .u64 M:=MK I
 refine Rz O O O I (AL O (kp [15,14,13,11,10,9,2,8] O) (AI (AA O (AA O (AA O (HU O O O (Ls O O O (AL O (kp [16,15,14,13,11,10,9,2,8] O) (AD (Am (λa w=>∃(q:Int),IV B S K (135,[]) a w [(14,.int .u64 (Gx .and .u64 (Cw .u64 b i) 4294967295)),(13,.int .u64 (Dp .u64 (Cw .u64 b i) 32)),(11,.int .u64 (Gx .or .u64 (Cw .u64 d n) (Dp .u64 b p))),(10,.int .u64 (Gx .and .u64 (Cw .u64 c g) 4294967295)),(9,.int .u64 (Dp .u64 (Cw .u64 c g) 32)),(2,.int .u64 (Cw .u64 c g)),(8,.int .u64 (IntKind.wrap .u64 H)),(15,.int .u64 q)] (L) λ_ _=>IntKind.has .u64 q∧C2 N d b c H g n p i q=some r) ?_ ?_))))))))))
 ·refine A3 (λn1=>λa w=>∃(s:Int) (y:Int),IV B S K (135,[]) a w [(14,.int .u64 (Gx .and .u64 (Cw .u64 b i) 4294967295)),(13,.int .u64 (Dp .u64 (Cw .u64 b i) 32)),(11,.int .u64 (Gx .or .u64 (Cw .u64 d n) (Dp .u64 b p))),(10,.int .u64 (Gx .and .u64 (Cw .u64 c g) 4294967295)),(9,.int .u64 (Dp .u64 (Cw .u64 c g) 32)),(2,.int .u64 (Cw .u64 c g)),(8,.int .u64 (IntKind.wrap .u64 H)),(15,.int .u64 s),(16,.int .u64 y)] (L) λ_ _=>IntKind.has .u64 s∧IntKind.has .u64 y∧Cd N b c g i (C2 N d b c H g n p i) n1 s y=some r) N ?_ ?_ ?_
  ·intro u x k m
   exact⟨M,(IntKind.wrap .u64 ((Gx .or .u64 (Cw .u64 d n) (Dp .u64 b p))-(IntKind.wrap .u64 (M*(Dp .u64 (Cw .u64 c g) 32))))),_,_,k.sub (kp [14,13,11,10,9,2,8,15,16] O),m,ac,(B9.refl S K),am,(Dz _ _),E⟩
  ·rintro u x ⟨_,_,_,_,_,_,_,_,_,_,E⟩
   rw[Cd] at E;cases E
  rintro n1 u x ⟨s,y,a0,a1,k,m,C,Q,an,a2,E⟩
  refine Ad ?_ k m
  clear k m x u
  rw[Cd] at E
  refine AD (AI (AA O (Gv O (AA O (AV 9 78 (.bool ((decide (4294967296≤s))||(decide ((IntKind.wrap .u64 ((IntKind.wrap .u64 (4294967296*y))+(Dp .u64 (Cw .u64 b i) 32)))<(IntKind.wrap .u64 (s*(Gx .and .u64 (Cw .u64 c g) 4294967295))))))) ?_ ?_)))))
  ·cases a3:(decide (4294967296≤s))
   ·exact AB O (AA O (AB O (AA O (AB O (HU O O O (AB O (AA O (AB O (HU O O O (AB O (AA O (AB O (I3 O O O (AB O (Bh O (AJ O (AU O)))))))))))))))))
   exact Aa O O
  refine AN (kp [78,14,13,11,10,9,2,8,15,16] O) (AX O E (λao E=>?_) (λao E=>?_))
  ·refine AT (A5 (AI (AA O (Ls O O O (AL O (kp [15,14,13,11,10,9,2,8,16] O) (AI (AA O (AA O (I3 O O O (AL O (kp [16,15,14,13,11,10,9,2,8] O) (AI (AA O (Gv O (AN (kp [85,16,15,14,13,11,10,9,2,8] O) (AX O E (λap E=>?_) (λap E=>?_))))))))))))))))
   ·refine A9 O (λu x k m=>?_)
    exact⟨(IntKind.wrap .u64 (s-1)),_,_,k.sub (kp [14,13,11,10,9,2,8,15] O),m,C,Q,(Dz _ _),E⟩
   refine AT (BK (WF.nil (λu x k m=>?_)))
   exact⟨(IntKind.wrap .u64 (s-1)),(IntKind.wrap .u64 (y+(Dp .u64 (Cw .u64 c g) 32))),_,_,k.sub (kp [14,13,11,10,9,2,8,15,16] O),m,C,Q,(Dz _ _),(Dz _ _),E⟩
  refine A9 O (λu x k m=>?_)
  exact⟨s,_,_,k.sub (kp [14,13,11,10,9,2,8,15] O),m,C,Q,an,E⟩
 rintro u x ⟨q,U,V,k,m,ah,aq,a4,E⟩
 refine Ad ?_ k m
 clear k m x u
 rw[C2] at E
 refine AI (AA O (HU O O O (AA O (I3 O O O (AA O (AA O (HU O O O (Ls O O O (AL O (kp [17,14,10,9,2,8,15] O) (AI (AA O (AA O ?_))))))))))))
 obtain⟨W,J,E⟩:=bd E
 have ar:IntKind.has .u64 W:=MK J
 refine Rz O O O J (AL O (kp [18,17,14,10,9,2,8,15] O) (AI (AA O (AA O (AA O (HU O O O (Ls O O O (AL O (kp [16,18,17,14,10,9,2,8,15] O) (AD (Am (λa w=>∃(G:Int),IV B U V (135,[]) a w [(17,.int .u64 (IntKind.wrap .u64 ((IntKind.wrap .u64 ((IntKind.wrap .u64 ((Gx .or .u64 (Cw .u64 d n) (Dp .u64 b p))*4294967296))+(Dp .u64 (Cw .u64 b i) 32)))-(IntKind.wrap .u64 (q*(Cw .u64 c g)))))),(14,.int .u64 (Gx .and .u64 (Cw .u64 b i) 4294967295)),(2,.int .u64 (Cw .u64 c g)),(8,.int .u64 (IntKind.wrap .u64 H)),(15,.int .u64 q),(18,.int .u64 G)] (L) λ_ _=>IntKind.has .u64 G∧D7 N d b c H g n p i q G=some r) ?_ ?_))))))))))
 ·refine A3 (λn3=>λa w=>∃(z:Int) (t:Int),IV B U V (135,[]) a w [(17,.int .u64 (IntKind.wrap .u64 ((IntKind.wrap .u64 ((IntKind.wrap .u64 ((Gx .or .u64 (Cw .u64 d n) (Dp .u64 b p))*4294967296))+(Dp .u64 (Cw .u64 b i) 32)))-(IntKind.wrap .u64 (q*(Cw .u64 c g)))))),(14,.int .u64 (Gx .and .u64 (Cw .u64 b i) 4294967295)),(10,.int .u64 (Gx .and .u64 (Cw .u64 c g) 4294967295)),(9,.int .u64 (Dp .u64 (Cw .u64 c g) 32)),(2,.int .u64 (Cw .u64 c g)),(8,.int .u64 (IntKind.wrap .u64 H)),(15,.int .u64 q),(16,.int .u64 z),(18,.int .u64 t)] (L) λ_ _=>IntKind.has .u64 z∧IntKind.has .u64 t∧C1 N b c g i (D7 N d b c H g n p i q) n3 z t=some r) N ?_ ?_ ?_
  ·intro u x k m
   exact⟨(IntKind.wrap .u64 ((IntKind.wrap .u64 ((IntKind.wrap .u64 ((IntKind.wrap .u64 ((Gx .or .u64 (Cw .u64 d n) (Dp .u64 b p))*4294967296))+(Dp .u64 (Cw .u64 b i) 32)))-(IntKind.wrap .u64 (q*(Cw .u64 c g)))))-(IntKind.wrap .u64 (W*(Dp .u64 (Cw .u64 c g) 32))))),W,_,_,k.sub (kp [17,14,10,9,2,8,15,16,18] O),m,ah,(B9.refl U V),(Dz _ _),ar,E⟩
  ·rintro u x ⟨_,_,_,_,_,_,_,_,_,_,E⟩
   rw[C1] at E;cases E
  rintro n3 u x ⟨z,t,a5,a6,k,m,D,X,a7,au,E⟩
  refine Ad ?_ k m
  clear k m x u
  rw[C1] at E
  refine AD (AI (AA O (Gv O (AA O (AV 9 113 (.bool ((decide (4294967296≤t))||(decide ((IntKind.wrap .u64 ((IntKind.wrap .u64 (4294967296*z))+(Gx .and .u64 (Cw .u64 b i) 4294967295)))<(IntKind.wrap .u64 (t*(Gx .and .u64 (Cw .u64 c g) 4294967295))))))) ?_ ?_)))))
  ·cases a8:(decide (4294967296≤t))
   ·exact AB O (AA O (AB O (AA O (AB O (HU O O O (AB O (AA O (AB O (HU O O O (AB O (AA O (AB O (I3 O O O (AB O (Bh O (AJ O (AU O)))))))))))))))))
   exact Aa O O
  refine AN (kp [113,17,14,10,9,2,8,15,16,18] O) (AX O E (λav E=>?_) (λav E=>?_))
  ·refine AT (A5 (AI (AA O (Ls O O O (AL O (kp [18,17,14,10,9,2,8,15,16] O) (AI (AA O (AA O (I3 O O O (AL O (kp [16,18,17,14,10,9,2,8,15] O) (AI (AA O (Gv O (AN (kp [120,16,18,17,14,10,9,2,8,15] O) (AX O E (λaw E=>?_) (λaw E=>?_))))))))))))))))
   ·refine A9 O (λu x k m=>?_)
    exact⟨(IntKind.wrap .u64 (t-1)),_,_,k.sub (kp [17,14,2,8,15,18] O),m,D,X,(Dz _ _),E⟩
   refine AT (BK (WF.nil (λu x k m=>?_)))
   exact⟨(IntKind.wrap .u64 (z+(Dp .u64 (Cw .u64 c g) 32))),(IntKind.wrap .u64 (t-1)),_,_,k.sub (kp [17,14,10,9,2,8,15,16,18] O),m,D,X,(Dz _ _),(Dz _ _),E⟩
  refine A9 O (λu x k m=>?_)
  exact⟨t,_,_,k.sub (kp [17,14,2,8,15,18] O),m,D,X,au,E⟩
 rintro u x ⟨G,a9,ba,k,m,ai,ax,bb,E⟩
 refine Ad ?_ k m
 clear k m x u
 rw[D7] at E
 refine AI (AA O (HU O O O (AA O (I3 O O O (AA O (HU O O O (AA O (I3 O O O (AA O (AA O (HU O O O (Ls O O O (AA O ?_)))))))))))))
 obtain⟨ay,aj,E⟩:=bd E
 refine Ih (j:=ay) O O O aj (AY O (AL O (kp [7,6] O) (Ac (λu x k m=>?_))))
 cases E
 exact J9 k O m (IC (Im k (v:=_) O) (IC (Im k (v:=_) O) J8)) O (al.trans (aq.trans ax)) ⟨O,(Dz _ _),(PD _ (Dz _ _) _),ai⟩
end Go.Proofs.YtblcgjadhemlbaaGreat
